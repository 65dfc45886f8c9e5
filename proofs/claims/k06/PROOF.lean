import PyProof.Rows.All
import Wide.All
import OpenK.AllK
import Wide.FinOn
import HandS.ForMost
import HandS.Exc
import HandS.ExcOwn
import HandS.WordsExc
import HandS.Deep
import PySem.Str
import HandS.Base
import HandS.Defaults
import HandS.TupAny
import HandS.IsInst
import HandS.DictEq
import KE.DataCmp
import KE.DataMinMax
import HandS.Conv
import HandS.Zip
import PyProof.DictWalks
import PyProof.DictUpdate
import HandS.SortInts
import HandS.More
import PyProof.Rows.SortShellAny
import HandS.SetFor
import HandS.Small
import KE.GoesEnum
import KE.SortData
import HandS.MakeKwOnly
import HandS.TryOnly
import HandS.HeadHook1
import PyProof.NeKinds
import KE.DataFind
import HandS.Remove
import HandS.TupMul
import HandS.DictComp
import HandS.Iter
import PyProof.P3In
import HandS.CallSlots
import HandS.Strs
import KE.KDictKeyed
import HandS.Head0
import HandS.Head1
import HandS.Head2
import HandS.HeadEnd
import HandS.HeadHook2
import HandS.HeadHook3
import HandS.HeadHook4
import Lean
import PySem.Challenge.RW_clipformats_k06_whole_best_routes_hang_t
set_option Elab.async false
set_option linter.all false
set_option autoImplicit false
set_option maxRecDepth 100000
set_option maxHeartbeats 0
noncomputable section
namespace Mm
theorem aa'.{u} {α : Type u} {a : α} {l : List α} : (a :: l)[0]? = some a := rfl
theorem ab'.{u} {α : Type u} {a : α} {l : List α} {i : Nat} : (a :: l)[i + 1]? = l[i]? := rfl
theorem ac'.{u} {α : Type u} {a : α} {l : List α} {b : α} : (a :: l).set 0 b = b :: l := rfl
theorem ad'.{u} {α : Type u} {a : α} {l : List α} {n : Nat} {b : α} : (a :: l).set (n + 1) b = a :: l.set n b := rfl
theorem ae' : (!true) = false := rfl
theorem af' : (!false) = true := rfl
theorem ag' : (false = true) = False := Bool.false_eq_true
theorem ah' (n : Nat) : 0 ≤ n := Nat.zero_le n
theorem al'.{u, v} {α : Type u} {β : Type v} {f : α → β} {a : α} {l : List α} : (a :: l).map f = f a :: l.map f := rfl
theorem am'.{u, v} {α : Type u} {β : Type v} {f : α → β} : ([] : List α).map f = [] := rfl
theorem an'.{u} {α : Type u} {a : α} {l : List α} : (a :: l).length = l.length + 1 := rfl
theorem ao'.{u} {α : Type u} : ([] : List α).length = 0 := rfl
theorem aq'.{u} {α : Type u} {a : α} {l r : List α} : (a :: l) ++ r = a :: (l ++ r) := rfl
theorem ar'.{u} {α : Type u} (l : List α) : [] ++ l = l := rfl
end Mm
namespace Mm
abbrev Str := PySem.Str
abbrev Key := Sum Int Str
/-- data: tuples, frozen lists, frozen dicts by content (rt, rl: such as are only read; st: a tuple known to have no dict); mutable objects by their place; globals by name; built-in types -/
inductive D where
  | non | bl (b : Bool) | int (i : Int) | str (s : Str)
  | t (ds : List D) | l (ds : List D) | dk (ks : List Key) (ds : List D)
  | rt (ds : List D) | rl (ds : List D)
  | st (ds : List D)
  | loc (n : Nat) | g (x : Str) | ty (n : String)
/-- a mutable object -/
inductive O where
  | lst (ds : List D)
  | dk (kvs : List (Key × D))
  | dt (kvs : List (List Key × D))
  | lt (kvs : List (List Key × D)) (ho : L2.HO)
  | ins (c : Str) (fs : List (Str × D))
  | dead
abbrev Hs := List O
abbrev Fs := List (Option D)
inductive R (α : Type) where
  | ok (a : α) (hs : Hs)
  | exc (c : Str) (p : D) (hs : Hs)
  | bad
def R.bind {α β : Type} (r : R α) (k : α → Hs → R β) : R β := match r with
  | .ok a hs => k a hs
  | .exc c p hs => .exc c p hs
  | .bad => .bad
@[simp] theorem R.bind_ok {α β : Type} (a : α) (hs : Hs) (k : α → Hs → R β) : (R.ok a hs).bind k = k a hs := rfl
@[simp] theorem R.bind_exc {α β : Type} (c : Str) (p : D) (hs : Hs) (k : α → Hs → R β) : (R.exc c p hs : R α).bind k = .exc c p hs := rfl
@[simp] theorem R.bind_bad {α β : Type} (k : α → Hs → R β) : (R.bad : R α).bind k = .bad := rfl
/-- what may not raise -/
def R.bindN {α β : Type} (r : R α) (k : α → Hs → R β) : R β := match r with
  | .ok a hs => k a hs
  | _ => .bad
@[simp] theorem R.bindN_ok {α β : Type} (a : α) (hs : Hs) (k : α → Hs → R β) : (R.ok a hs).bindN k = k a hs := rfl
@[simp] theorem R.bindN_exc {α β : Type} (c : Str) (p : D) (hs : Hs) (k : α → Hs → R β) : (R.exc c p hs : R α).bindN k = .bad := rfl
@[simp] theorem R.bindN_bad {α β : Type} (k : α → Hs → R β) : (R.bad : R α).bindN k = .bad := rfl
abbrev M := Fs → Hs → R D
abbrev MA := Fs → Hs → R (List D)
abbrev MT := Fs → Hs → R Bool
abbrev MG := D → Fs → Hs → R Fs
/-- what a loop walks: the items; the tracked list (its place, its items) that must stand -/
abbrev MI := Fs → Hs → R (List D × Option (Nat × List D))
def eVar (i : Nat) : M := fun fs hs => match fs[i]? with
  | some (some d) => .ok d hs
  | _ => .bad
def eC (d : D) : M := fun _ hs => .ok d hs
def eBin (op : D → D → Hs → R D) (a b : M) : M := fun fs hs => (a fs hs).bind fun x h1 => (b fs h1).bind fun y h2 => op x y h2
def eUn (op : D → Hs → R D) (a : M) : M := fun fs hs => (a fs hs).bind fun x h1 => op x h1
def aNil : MA := fun _ hs => .ok [] hs
def aCons (a : M) (r : MA) : MA := fun fs hs => (a fs hs).bind fun x h1 => (r fs h1).bind fun xs h2 => .ok (x :: xs) h2
/-- displays, calls: by the values -/
def eArgs (op : List D → Hs → R D) (as : MA) : M := fun fs hs => (as fs hs).bind op
/-- a method of a built-in type: the object (of that type), then the arguments -/
def eMeth (ty : D → Hs → Bool) (op : D → List D → Hs → R D) (o : M) (as : MA) : M := fun fs hs => (o fs hs).bind fun x h1 => if ty x h1 = true then (as fs h1).bind fun xs h2 => op x xs h2 else .bad
def isLst (x : D) (hs : Hs) : Bool := match x with
  | .l _ => true
  | .loc n => match hs[n]? with
    | some (.lst _) => true
    | _ => false
  | _ => false
def isDct (x : D) (hs : Hs) : Bool := match x with
  | .dk _ _ => true
  | .loc n => match hs[n]? with
    | some (.dk _) => true
    | some (.dt _) => true
    | _ => false
  | _ => false
def eIf (t : MT) (a b : M) : M := fun fs hs => (t fs hs).bind fun c h1 => if c = true then a fs h1 else b fs h1
/-- and, or of truths as values -/
def eAnd (a b : M) : M := fun fs hs => (a fs hs).bind fun x h1 => match x with
  | .bl c => if c = true then b fs h1 else .ok (.bl false) h1
  | _ => .bad
def eOr (a b : M) : M := fun fs hs => (a fs hs).bind fun x h1 => match x with
  | .bl c => if c = true then .ok (.bl true) h1 else b fs h1
  | _ => .bad
def eNot (a : M) : M := fun fs hs => (a fs hs).bind fun x h1 => match x with
  | .bl c => .ok (.bl (!c)) h1
  | _ => .bad
/-- a op b op' c -/
def eChain (op op' : D → D → Hs → R D) (a b c : M) : M := fun fs hs => (a fs hs).bind fun x h1 => (b fs h1).bind fun y h2 => (op x y h2).bind fun z h3 => match z with
  | .bl k => if k = true then (c fs h3).bind fun u h4 => op' y u h4 else .ok (.bl false) h3
  | _ => .bad
def tVal (a : M) : MT := fun fs hs => (a fs hs).bind fun x h1 => match x with
  | .bl c => .ok c h1
  | _ => .bad
def tAnd (a b : MT) : MT := fun fs hs => (a fs hs).bind fun c h1 => if c = true then b fs h1 else .ok false h1
def tOr (a b : MT) : MT := fun fs hs => (a fs hs).bind fun c h1 => if c = true then .ok true h1 else b fs h1
def tNot (a : MT) : MT := fun fs hs => (a fs hs).bind fun c h1 => .ok (!c) h1
def tYes : MT := fun _ hs => .ok true hs
def frz (d : D) (hs : Hs) : R D := match d with
  | .loc n => match hs[n]? with
    | some (.lst ds) => .ok (.l ds) (hs.set n .dead)
    | some (.dk kvs) => .ok (.dk (kvs.map (·.1)) (kvs.map (·.2))) (hs.set n .dead)
    | _ => .bad
  | d => .ok d hs
def eFrz (a : M) : M := eUn frz a
def seqOf (d : D) (hs : Hs) : Option (List D) := match d with
  | .t ds => some ds
  | .l ds => some ds
  | .rt ds => some ds
  | .rl ds => some ds
  | .st ds => some ds
  | .loc n => match hs[n]? with
    | some (.lst ds) => some ds
    | _ => none
  | _ => none
def ixN (n : Nat) (i : Int) : Option Nat := if 0 ≤ i then (if i < n then some i.toNat else none) else if 0 ≤ i + n then some (i + n).toNat else none
def vIx (x i : D) (hs : Hs) : R D := match i with
  | .int k => match seqOf x hs with
    | some ds => match (ixN ds.length k).bind fun j => ds[j]? with
      | some d => .ok d hs
      | none => .bad
    | none => .bad
  | _ => .bad
abbrev MO := Fs → Hs → R (Option Int)
def oNone : MO := fun _ hs => .ok none hs
def oSome (a : M) : MO := fun fs hs => (a fs hs).bind fun x h1 => match x with
  | .int i => .ok (some i) h1
  | _ => .bad
def eSl (op : D → Option Int → Option Int → Hs → R D) (a : M) (lo hi : MO) : M := fun fs hs => (a fs hs).bind fun x h1 => (lo fs h1).bind fun l h2 => (hi fs h2).bind fun u h3 => op x l u h3
inductive RS where
  | nx (fs : Fs) (hs : Hs) | ret (d : D) (hs : Hs) | brk (fs : Fs) (hs : Hs) | cnt (fs : Fs) (hs : Hs) | exc (c : Str) (p : D) (fs : Fs) (hs : Hs) | bad
abbrev MS := Fs → Hs → RS
def R.bindS {α : Type} (fs : Fs) (r : R α) (k : α → Hs → RS) : RS := match r with
  | .ok a hs => k a hs
  | .exc c p hs => .exc c p fs hs
  | .bad => .bad
@[simp] theorem R.bindS_ok {α : Type} (fs : Fs) (a : α) (hs : Hs) (k : α → Hs → RS) : R.bindS fs (R.ok a hs) k = k a hs := rfl
@[simp] theorem R.bindS_exc {α : Type} (fs : Fs) (c : Str) (p : D) (hs : Hs) (k : α → Hs → RS) : R.bindS fs (R.exc c p hs : R α) k = .exc c p fs hs := rfl
@[simp] theorem R.bindS_bad {α : Type} (fs : Fs) (k : α → Hs → RS) : R.bindS fs (R.bad : R α) k = .bad := rfl
def RS.seq (r : RS) (k : MS) : RS := match r with
  | .nx fs hs => k fs hs
  | r => r
def sNx : MS := fun fs hs => .nx fs hs
def sSeq (a b : MS) : MS := fun fs hs => (a fs hs).seq b
def gName (i : Nat) : MG := fun d fs hs => .ok (fs.set i (some d)) hs
/-- the targets of a tuple, from the left -/
def gNil : List D → Fs → Hs → R Fs := fun ds fs hs => match ds with
  | [] => .ok fs hs
  | _ => .bad
def gCons (g : MG) (r : List D → Fs → Hs → R Fs) : List D → Fs → Hs → R Fs := fun ds fs hs => match ds with
  | d :: ds => (g d fs hs).bind fun fs h1 => r ds fs h1
  | [] => .bad
def gTup (g : List D → Fs → Hs → R Fs) : MG := fun d fs hs => match d with
  | .t ds => g ds fs hs
  | _ => .bad
/-- o[i] = v -/
def gSub (set : D → D → D → Hs → R Unit) (o i : M) : MG := fun v fs hs => (o fs hs).bind fun x h1 => (i fs h1).bind fun k h2 => (set x k v h2).bind fun _ h3 => .ok fs h3
def sAsg (a : M) (g : MG) : MS := fun fs hs => R.bindS fs (a fs hs) fun d h1 => R.bindS fs (g d fs h1) fun fs' h2 => .nx fs' h2
/-- a, b = x, y (local names) -/
def sPar (i j : Nat) (a b : M) : MS := fun fs hs => R.bindS fs (a fs hs) fun x h1 => R.bindS fs (b fs h1) fun y h2 => .nx ((fs.set i (some x)).set j (some y)) h2
def sExpr (a : M) : MS := fun fs hs => R.bindS fs (a fs hs) fun _ h1 => .nx fs h1
def sRet (a : M) : MS := fun fs hs => R.bindS fs (a fs hs) fun d h1 => .ret d h1
def sRetN : MS := fun _ hs => .ret .non hs
def sIf (t : MT) (a b : MS) : MS := fun fs hs => R.bindS fs (t fs hs) fun c h1 => if c = true then a fs h1 else b fs h1
def sNever : MS := fun _ _ => .bad
/-- the tracked list is as it was -/
def stands (k : Option (Nat × List D)) (hs : Hs) : Prop := match k with
  | none => True
  | some p => hs[p.1]? = some (.lst p.2)
open Classical in
def forL (k : Option (Nat × List D)) (g : MG) (body : MS) : List D → MS
  | [], fs, hs => if stands k hs then .nx fs hs else .bad
  | x :: r, fs, hs => if stands k hs then (R.bindS fs (g x fs hs) fun fs' h1 => match body fs' h1 with
      | .nx fs2 h2 => forL k g body r fs2 h2
      | .cnt fs2 h2 => forL k g body r fs2 h2
      | .brk fs2 h2 => .nx fs2 h2
      | z => z) else .bad
def sFor (src : MI) (g : MG) (body : MS) : MS := fun fs hs => R.bindS fs (src fs hs) fun p h1 => forL p.2 g body p.1 fs h1
def whileN (t : MT) (body : MS) : Nat → MS
  | 0, _, _ => .bad
  | n + 1, fs, hs => R.bindS fs (t fs hs) fun c h1 => if c = true then (match body fs h1 with
      | .nx fs2 h2 => whileN t body n fs2 h2
      | .cnt fs2 h2 => whileN t body n fs2 h2
      | .brk fs2 h2 => .nx fs2 h2
      | z => z) else .nx fs h1
def sWhile (fuel : Nat) (t : MT) (body : MS) : MS := whileN t body fuel
def iSeq (a : M) : MI := fun fs hs => (a fs hs).bind fun d h1 => match d with
  | .t ds => .ok (ds, none) h1
  | .st ds => .ok (ds, none) h1
  | .l ds => .ok (ds, none) h1
  | .rl ds => .ok (ds, none) h1
  | .loc n => match h1[n]? with
    | some (.lst ds) => .ok (ds, some (n, ds)) h1
    | _ => .bad
  | _ => .bad
def onlyL (m : M) : M := fun fs hs => (m fs hs).bind fun d h1 => match d with
  | .t _ => .bad
  | .st _ => .bad
  | d => .ok d h1
def rng (lo : Int) (n : Nat) : List D := (List.range n).map fun (k : Nat) => .int (lo + (k : Int))
def lim : Int := 1000000
def int1 : List D → Option Int
  | [.int j] => some j
  | _ => none
def int2 : List D → Option (Int × Int)
  | [.int i, .int j] => some (i, j)
  | _ => none
theorem int1_some {ds : List D} {j : Int} (h : int1 ds = some j) : ds = [.int j] := by
  unfold int1 at h
  split at h
  · cases h; rfl
  · cases h
theorem int2_some {ds : List D} {p : Int × Int} (h : int2 ds = some p) : ds = [.int p.1, .int p.2] := by
  unfold int2 at h
  split at h
  · cases h; rfl
  · cases h
def iRng1 (as : MA) : MI := fun fs hs => (as fs hs).bind fun ds h1 => match int1 ds with
  | some j => if -lim ≤ j ∧ j ≤ lim then .ok (rng 0 j.toNat, none) h1 else .bad
  | none => .bad
def iRng2 (as : MA) : MI := fun fs hs => (as fs hs).bind fun ds h1 => match int2 ds with
  | some p => if (-lim ≤ p.1 ∧ p.1 ≤ lim) ∧ (-lim ≤ p.2 ∧ p.2 ≤ lim) then .ok (rng p.1 (p.2 - p.1).toNat, none) h1 else .bad
  | none => .bad
def enumD (ds : List D) : List D := List.zipWith (fun (k : Nat) d => .t [.int (k : Int), d]) (List.range ds.length) ds
def one1 : List D → Option D
  | [d] => some d
  | _ => none
theorem one1_some {ds : List D} {d : D} (h : one1 ds = some d) : ds = [d] := by
  unfold one1 at h
  split at h
  · cases h; rfl
  · cases h
def wipe (fs : Fs) : List Nat → Fs
  | [] => fs
  | v :: vs => (wipe fs vs).set v none
open Classical in
def lcL (k : Option (Nat × List D)) (g : MG) (t : MT) (e : M) (fs : Fs) : List D → List D → Hs → R (List D)
  | [], acc, hs => if stands k hs then .ok acc hs else .bad
  | x :: r, acc, hs => if stands k hs then ((g x fs hs).bindN fun fs' h1 => (t fs' h1).bindN fun c h2 => if c = true then ((e fs' h2).bindN fun y h3 =>
      if acc.length < 100000 then lcL k g t e fs r (acc ++ [y]) h3 else .bad) else lcL k g t e fs r acc h2) else .bad
/-- the new list is frozen -/
def eLc (own : List Nat) (src : MI) (g : MG) (t : MT) (e : M) : M := fun fs hs => (src fs hs).bind fun p h1 => (lcL p.2 g t e (wipe fs own) p.1 [] h1).bind fun ds h2 => .ok (.l ds) h2
def start (n : Nat) (ds : List D) : Fs := ds.map some ++ List.replicate (n - ds.length) none
def RS.toR : RS → R D
  | .nx _ hs => .ok .non hs
  | .ret d hs => .ok d hs
  | .exc c p _ hs => .exc c p hs
  | _ => .bad
def runD (n : Nat) (body : MS) (ds : List D) (hs : Hs) : R D := (body (start n ds) hs).toR
mutual
def closed (n : Nat) : D → Bool
  | .t ds => closedL n ds
  | .l ds => closedL n ds
  | .dk _ ds => closedL n ds
  | .rt ds => closedL n ds
  | .st ds => closedL n ds
  | .rl ds => closedL n ds
  | .loc k => decide (k < n)
  | _ => true
def closedL (n : Nat) : List D → Bool
  | [] => true
  | d :: ds => closed n d && closedL n ds
end
def closedO (n : Nat) : O → Bool
  | .lst ds => closedL n ds
  | .dk kvs => closedL n (kvs.map (·.2))
  | .dt kvs => closedL n (kvs.map (·.2))
  | .lt kvs _ => closedL n (kvs.map (·.2))
  | .ins _ fs => closedL n (fs.map (·.2))
  | .dead => true
/-- the objects that the def has made are forgotten, but the first k -/
def Trims (hs hs' : Hs) (m : Nat) : Prop := hs.length ≤ m ∧ m ≤ hs'.length ∧ ∀ i, i < m → hs'[i]? = hs[i]? ∨ ∃ o, hs'[i]? = some o ∧ closedO m o = true
open Classical in
def trim (k : Nat) (hs : Hs) (r : R D) : R D := match r with
  | .ok d hs' => if closed (hs.length + k) d = true ∧ Trims hs hs' (hs.length + k) then .ok d (hs'.take (hs.length + k)) else .bad
  | .exc c p hs' => if closed hs.length p = true ∧ Trims hs hs' hs.length then .exc c p (hs'.take hs.length) else .bad
  | .bad => .bad
/-- a def: np parameters, n names; the first k objects that it makes stay -/
def callD (np n k : Nat) (body : MS) : List D → Hs → R D := fun ds hs => if ds.length = np then trim k hs (runD n body ds hs) else .bad
theorem ba' {α β : Type} (a : α) (hs : Hs) (k : α → Hs → R β) : (R.ok a hs).bind k = k a hs := rfl
theorem bb' {α : Type} (fs : Fs) (a : α) (hs : Hs) (k : α → Hs → RS) : R.bindS fs (R.ok a hs) k = k a hs := rfl
theorem bc' {α β : Type} (a : α) (hs : Hs) (k : α → Hs → R β) : (R.ok a hs).bindN k = k a hs := rfl
end Mm
namespace Mm
open PySem PySem.Spec PyProof.Rows L2
structure Ct where
  K : PySem.W.Frag
  G : Str → Addr
structure Wd where
  ρ : List Addr
  F : Hp
  H : Hp
mutual
def Rp (c : Ct) (ρ : List Addr) (F : Hp) : D → V → Prop
  | .non, v => v = .non
  | .bl b, v => v = .bl b
  | .int i, v => v = .int i
  | .str s, v => v = .str s
  | .t ds, v => ∃ a vs, v = .ref a ∧ F a = some (.tup vs) ∧ Rps c ρ F ds vs
  | .l ds, v => ∃ a vs, v = .ref a ∧ F a = some (.lst vs) ∧ Rps c ρ F ds vs
  | .st ds, v => ∃ a vs, v = .ref a ∧ (∃ ob, F a = some (.frz ob (.tup vs)) ∧ ob.cls = .type "tuple" ∧ ob.dict = none) ∧ Rps c ρ F ds vs
  | .rt ds, v => ∃ a vs, v = .ref a ∧ SqT c.K F a vs ∧ Rps c ρ F ds vs
  | .rl ds, v => ∃ a vs, v = .ref a ∧ SqL c.K F a vs ∧ Rps c ρ F ds vs
  | .dk ks ds, v => ∃ a kvs, v = .ref a ∧ F a = some (.dK kvs) ∧ kvs.map (·.1) = ks ∧ Rps c ρ F ds (kvs.map (·.2))
  | .loc n, v => ∃ a, v = .ref a ∧ ρ[n]? = some a
  | .g x, v => v = .ref (c.G x)
  | .ty n, v => v = .ty n
def Rps (c : Ct) (ρ : List Addr) (F : Hp) : List D → List V → Prop
  | [], vs => vs = []
  | d :: ds, vs => ∃ v r, vs = v :: r ∧ Rp c ρ F d v ∧ Rps c ρ F ds r
end
structure Wd.le (w w' : Wd) : Prop where
  pre : ∃ s, w'.ρ = w.ρ ++ s ∧ ∀ a ∈ s, w.H a = none
  sub : ∀ a o, w.F a = some o → w'.F a = some o
  keep : ∀ a o, w.H a = some o → a ∉ w.ρ → w'.H a = some o
  there : ∀ a o, w.H a = some o → ∃ o', w'.H a = some o'
  newF : ∀ a o, w'.F a = some o → w.F a = some o ∨ w.H a = none ∨ a ∈ w.ρ
theorem sqt_sub {K : PySem.W.Frag} {F F' : Hp} (h : ∀ a o, F a = some o → F' a = some o) {a : Addr} {vs : List V} (r : SqT K F a vs) : SqT K F' a vs := by
  rcases r with (r | ⟨o, r⟩) | r
  · exact .inl (.inl (h _ _ r))
  · exact .inl (.inr ⟨o, h _ _ r⟩)
  · exact .inr r
theorem sql_sub {K : PySem.W.Frag} {F F' : Hp} (h : ∀ a o, F a = some o → F' a = some o) {a : Addr} {vs : List V} (r : SqL K F a vs) : SqL K F' a vs := by
  rcases r with (r | ⟨o, r⟩) | r
  · exact .inl (.inl (h _ _ r))
  · exact .inl (.inr ⟨o, h _ _ r⟩)
  · exact .inr r
theorem st_sqt {K : PySem.W.Frag} {F : Hp} {a : Addr} {vs : List V} (h : ∃ ob, F a = some (.frz ob (.tup vs)) ∧ ob.cls = .type "tuple" ∧ ob.dict = none) : SqT K F a vs := let ⟨ob, q, _⟩ := h; .inl (.inr ⟨ob, q⟩)
section
variable {c : Ct} {ρ ρ' : List Addr} {F F' : Hp}
mutual
theorem Rp.mono (hρ : ∃ s, ρ' = ρ ++ s) (hF : ∀ a o, F a = some o → F' a = some o) : ∀ {d : D} {v : V}, Rp c ρ F d v → Rp c ρ' F' d v
  | .non, _, h => h
  | .bl _, _, h => h
  | .int _, _, h => h
  | .str _, _, h => h
  | .t ds, v, h => by
    unfold Rp at h ⊢
    obtain ⟨a, vs, e, q, r⟩ := h
    exact ⟨a, vs, e, hF _ _ q, Rps.mono hρ hF r⟩
  | .l ds, v, h => by
    unfold Rp at h ⊢
    obtain ⟨a, vs, e, q, r⟩ := h
    exact ⟨a, vs, e, hF _ _ q, Rps.mono hρ hF r⟩
  | .st ds, v, h => by
    unfold Rp at h ⊢
    obtain ⟨a, vs, e, ⟨ob, q, q2⟩, r⟩ := h
    exact ⟨a, vs, e, ⟨ob, hF _ _ q, q2⟩, Rps.mono hρ hF r⟩
  | .rt ds, v, h => by
    unfold Rp at h ⊢
    obtain ⟨a, vs, e, q, r⟩ := h
    exact ⟨a, vs, e, sqt_sub hF q, Rps.mono hρ hF r⟩
  | .rl ds, v, h => by
    unfold Rp at h ⊢
    obtain ⟨a, vs, e, q, r⟩ := h
    exact ⟨a, vs, e, sql_sub hF q, Rps.mono hρ hF r⟩
  | .dk ks ds, v, h => by
    unfold Rp at h ⊢
    obtain ⟨a, kvs, e, q, z, r⟩ := h
    exact ⟨a, kvs, e, hF _ _ q, z, Rps.mono hρ hF r⟩
  | .loc n, v, h => by
    unfold Rp at h ⊢
    obtain ⟨a, e, q⟩ := h
    obtain ⟨s, rfl⟩ := hρ
    exact ⟨a, e, by rw [List.getElem?_append_left (List.getElem?_eq_some_iff.mp q).1]; exact q⟩
  | .g _, _, h => h
  | .ty _, _, h => h
theorem Rps.mono (hρ : ∃ s, ρ' = ρ ++ s) (hF : ∀ a o, F a = some o → F' a = some o) : ∀ {ds : List D} {vs : List V}, Rps c ρ F ds vs → Rps c ρ' F' ds vs
  | [], _, h => h
  | d :: ds, vs, h => by
    unfold Rps at h ⊢
    obtain ⟨v, r, e, h1, h2⟩ := h
    exact ⟨v, r, e, Rp.mono hρ hF h1, Rps.mono hρ hF h2⟩
end
theorem Rps.length : ∀ {ds : List D} {vs : List V}, Rps c ρ F ds vs → vs.length = ds.length
  | [], vs, h => by unfold Rps at h; subst h; rfl
  | d :: ds, vs, h => by
    unfold Rps at h
    obtain ⟨v, r, rfl, _, h2⟩ := h
    simp [Rps.length h2]
theorem Rps.get : ∀ {ds : List D} {vs : List V} {i : Nat} {d : D}, Rps c ρ F ds vs → ds[i]? = some d → ∃ v, vs[i]? = some v ∧ Rp c ρ F d v
  | [], _, _, _, _, e => by simp at e
  | x :: ds, vs, 0, d, h, e => by
    unfold Rps at h
    obtain ⟨v, r, rfl, h1, _⟩ := h
    simp at e; subst e
    exact ⟨v, rfl, h1⟩
  | x :: ds, vs, i + 1, d, h, e => by
    unfold Rps at h
    obtain ⟨v, r, rfl, _, h2⟩ := h
    have e2 : ds[i]? = some d := by simpa using e
    obtain ⟨u, e3, h3⟩ := Rps.get h2 e2
    exact ⟨u, by simpa using e3, h3⟩
theorem Rps.append : ∀ {ds es : List D} {vs us : List V}, Rps c ρ F ds vs → Rps c ρ F es us → Rps c ρ F (ds ++ es) (vs ++ us)
  | [], es, vs, us, h, h2 => by unfold Rps at h; subst h; exact h2
  | d :: ds, es, vs, us, h, h2 => by
    unfold Rps at h
    obtain ⟨v, r, rfl, h1, h3⟩ := h
    show Rps c ρ F (d :: (ds ++ es)) (v :: (r ++ us))
    unfold Rps
    exact ⟨v, _, rfl, h1, Rps.append h3 h2⟩
theorem Rps.one {d : D} {v : V} (h : Rp c ρ F d v) : Rps c ρ F [d] [v] := by
  unfold Rps
  exact ⟨v, [], rfl, h, by unfold Rps; rfl⟩
theorem Rps.nil : Rps c ρ F [] [] := by unfold Rps; rfl
theorem Rps.cons {d : D} {v : V} {ds : List D} {vs : List V} (h : Rp c ρ F d v) (h2 : Rps c ρ F ds vs) : Rps c ρ F (d :: ds) (v :: vs) := by
  unfold Rps
  exact ⟨v, vs, rfl, h, h2⟩
theorem Rps.take : ∀ {ds : List D} {vs : List V} (n : Nat), Rps c ρ F ds vs → Rps c ρ F (ds.take n) (vs.take n)
  | _, _, 0, _ => by simp; exact Rps.nil
  | [], vs, n + 1, h => by unfold Rps at h; subst h; simp; exact Rps.nil
  | d :: ds, vs, n + 1, h => by
    unfold Rps at h
    obtain ⟨v, r, rfl, h1, h2⟩ := h
    simp only [List.take_succ_cons]
    exact Rps.cons h1 (Rps.take n h2)
theorem Rps.drop : ∀ {ds : List D} {vs : List V} (n : Nat), Rps c ρ F ds vs → Rps c ρ F (ds.drop n) (vs.drop n)
  | _, _, 0, h => by simpa using h
  | [], vs, n + 1, h => by unfold Rps at h; subst h; simp; exact Rps.nil
  | d :: ds, vs, n + 1, h => by
    unfold Rps at h
    obtain ⟨v, r, rfl, h1, h2⟩ := h
    simp only [List.drop_succ_cons]
    exact Rps.drop n h2
theorem Rps.set : ∀ {ds : List D} {vs : List V} (n : Nat) {d : D} {v : V}, Rps c ρ F ds vs → Rp c ρ F d v → Rps c ρ F (ds.set n d) (vs.set n v)
  | [], vs, n, d, v, h, _ => by unfold Rps at h; subst h; simp; exact Rps.nil
  | x :: ds, vs, 0, d, v, h, h2 => by
    unfold Rps at h
    obtain ⟨u, r, rfl, _, h3⟩ := h
    exact Rps.cons h2 h3
  | x :: ds, vs, n + 1, d, v, h, h2 => by
    unfold Rps at h
    obtain ⟨u, r, rfl, h1, h3⟩ := h
    exact Rps.cons h1 (Rps.set n h3 h2)
end
def RO (c : Ct) (ρ : List Addr) (F : Hp) : O → HO → Prop
  | .lst ds, ho => ∃ vs, ho = .lst vs ∧ Rps c ρ F ds vs
  | .dk kvs, ho => ∃ us, ho = .dK us ∧ us.map (·.1) = kvs.map (·.1) ∧ Rps c ρ F (kvs.map (·.2)) (us.map (·.2))
  | .dt kvs, ho => ∃ us, ho = .dT us ∧ us.map (·.1) = kvs.map (·.1) ∧ Rps c ρ F (kvs.map (·.2)) (us.map (·.2))
  | .lt kvs ho0, ho => ho = ho0 ∧ ∃ od us, ho = .frz od (.dT us) ∧ us.map (·.1) = kvs.map (·.1) ∧ Rps c ρ F (kvs.map (·.2)) (us.map (·.2))
  | .ins x fs, ho => ∃ dx us, ho = .ins (c.G x) dx us ∧ us.map (·.1) = fs.map (·.1) ∧ Rps c ρ F (fs.map (·.2)) (us.map (·.2))
  | .dead, _ => True
theorem RO.mono {c : Ct} {ρ ρ' : List Addr} {F F' : Hp} (hρ : ∃ s, ρ' = ρ ++ s) (hF : ∀ a o, F a = some o → F' a = some o) {o : O} {ho : HO} (h : RO c ρ F o ho) : RO c ρ' F' o ho := by
  cases o with
  | lst ds => obtain ⟨vs, e, r⟩ := h; exact ⟨vs, e, r.mono hρ hF⟩
  | dk kvs => obtain ⟨us, e, k, r⟩ := h; exact ⟨us, e, k, r.mono hρ hF⟩
  | dt kvs => obtain ⟨us, e, k, r⟩ := h; exact ⟨us, e, k, r.mono hρ hF⟩
  | lt kvs ho0 => obtain ⟨e0, od, us, e, k, r⟩ := h; exact ⟨e0, od, us, e, k, r.mono hρ hF⟩
  | ins x fs => obtain ⟨dx, us, e, k, r⟩ := h; exact ⟨dx, us, e, k, r.mono hρ hF⟩
  | dead => trivial
structure SR (c : Ct) (w : Wd) (hs : Hs) : Prop where
  sub : ∀ a o, w.F a = some o → w.H a = some o
  len : w.ρ.length = hs.length
  nd : w.ρ.Nodup
  fr : ∀ (i : Nat) a o, w.ρ[i]? = some a → hs[i]? = some o → o ≠ .dead → w.F a = none
  ob : ∀ (i : Nat) a o, w.ρ[i]? = some a → hs[i]? = some o → ∃ ho, w.H a = some ho ∧ RO c w.ρ w.F o ho
theorem Wd.le.refl (w : Wd) : w.le w := ⟨⟨[], by simp, by simp⟩, fun _ _ h => h, fun _ _ h _ => h, fun _ o h => ⟨o, h⟩, fun _ _ h => .inl h⟩
theorem Wd.le.rho {w w' : Wd} (h : w.le w') : ∃ s, w'.ρ = w.ρ ++ s := let ⟨s, e, _⟩ := h.pre; ⟨s, e⟩
theorem Wd.le.trans {w w1 w2 : Wd} (a : w.le w1) (b : w1.le w2) : w.le w2 := by
  obtain ⟨s, e, n⟩ := a.pre
  obtain ⟨s', e', n'⟩ := b.pre
  refine ⟨⟨s ++ s', by rw [e', e, List.append_assoc], fun x hx => ?_⟩, fun x o h => b.sub x o (a.sub x o h), fun x o h hx => ?_, fun x o h => ?_, fun x o h => ?_⟩
  · rcases List.mem_append.mp hx with h | h
    · exact n x h
    · cases q : w.H x with
      | none => rfl
      | some o =>
        obtain ⟨o', e2⟩ := a.there x o q
        rw [n' x h] at e2
        cases e2
  · refine b.keep x o (a.keep x o h hx) ?_
    rw [e]
    intro hm
    rcases List.mem_append.mp hm with z | z
    · exact hx z
    · rw [n x z] at h; cases h
  · obtain ⟨o', e2⟩ := a.there x o h
    exact b.there x o' e2
  · rcases b.newF x o h with z | z | z
    · exact a.newF x o z
    · refine .inr (.inl ?_)
      cases q : w.H x with
      | none => rfl
      | some u =>
        obtain ⟨o', e2⟩ := a.there x u q
        rw [z] at e2; cases e2
    · rw [e] at z
      rcases List.mem_append.mp z with z | z
      · exact .inr (.inr z)
      · exact .inr (.inl (n x z))
theorem Rp.le {c : Ct} {w w' : Wd} {d : D} {v : V} (h : w.le w') (r : Rp c w.ρ w.F d v) : Rp c w'.ρ w'.F d v := r.mono h.rho h.sub
theorem Rps.le {c : Ct} {w w' : Wd} {d : List D} {v : List V} (h : w.le w') (r : Rps c w.ρ w.F d v) : Rps c w'.ρ w'.F d v := r.mono h.rho h.sub
section
variable {c : Ct} {w : Wd} {hs : Hs} {p a : Addr} {ho : HO} {o : O} {i : Nat}
theorem SR.the (S : SR c w hs) (h : a ∈ w.ρ) : ∃ o, w.H a = some o := by
  obtain ⟨i, hi, e⟩ := List.mem_iff_getElem.mp h
  have h2 : i < hs.length := by rw [← S.len]; exact hi
  obtain ⟨ho, q, _⟩ := S.ob i a hs[i] (by rw [List.getElem?_eq_getElem hi, e]) (List.getElem?_eq_getElem h2)
  exact ⟨ho, q⟩
theorem SR.new (S : SR c w hs) (h : w.H p = none) : p ∉ w.ρ := fun hm => by
  obtain ⟨o, q⟩ := S.the hm
  rw [h] at q; cases q
theorem SR.newF (S : SR c w hs) (h : w.H p = none) : w.F p = none := by
  cases q : w.F p with
  | none => rfl
  | some o => rw [S.sub p o q] at h; cases h
/-- a new frozen object -/
theorem SR.froz (S : SR c w hs) (h : w.H p = none) (ho : HO) : w.le ⟨w.ρ, upd w.F p ho, upd w.H p ho⟩ ∧ SR c ⟨w.ρ, upd w.F p ho, upd w.H p ho⟩ hs := by
  have hF := S.newF h
  have e1 : ∀ a o, w.F a = some o → upd w.F p ho a = some o := fun a o q => by rw [upd_ne (ne_of_none q hF)]; exact q
  have e2 : ∀ a o, w.H a = some o → upd w.H p ho a = some o := fun a o q => by rw [upd_ne (ne_of_none q h)]; exact q
  refine ⟨⟨⟨[], by simp, by simp⟩, e1, fun a o q _ => e2 a o q, fun a o q => ⟨o, e2 a o q⟩, fun a o q => ?_⟩, ⟨fun a o q => ?_, S.len, S.nd, fun i a o r q d => ?_, fun i a o r q => ?_⟩⟩
  · have q' : upd w.F p ho a = some o := q
    by_cases hp : a = p
    · subst hp; exact .inr (.inl h)
    · rw [upd_ne hp] at q'; exact .inl q'
  · show upd w.H p ho a = some o
    have q' : upd w.F p ho a = some o := q
    by_cases hp : a = p
    · subst hp; rw [upd_same] at q' ⊢; exact q'
    · rw [upd_ne hp] at q' ⊢; exact S.sub a o q'
  · show upd w.F p ho a = none
    have hm : a ∈ w.ρ := List.mem_of_getElem? r
    rw [upd_ne (fun z : a = p => S.new h (by rw [← z]; exact hm))]
    exact S.fr i a o r q d
  · obtain ⟨ho', q1, q2⟩ := S.ob i a o r q
    exact ⟨ho', e2 a ho' q1, q2.mono ⟨[], by simp⟩ e1⟩
/-- a new tracked object -/
theorem SR.push (S : SR c w hs) (h : w.H p = none) (r : RO c w.ρ w.F o ho) : w.le ⟨w.ρ ++ [p], w.F, upd w.H p ho⟩ ∧ SR c ⟨w.ρ ++ [p], w.F, upd w.H p ho⟩ (hs ++ [o]) := by
  have e2 : ∀ a o, w.H a = some o → upd w.H p ho a = some o := fun a o q => by rw [upd_ne (ne_of_none q h)]; exact q
  refine ⟨⟨⟨[p], rfl, by simpa using h⟩, fun _ _ q => q, fun a o q _ => e2 a o q, fun a o q => ⟨o, e2 a o q⟩, fun _ _ q => .inl q⟩, ⟨fun a o q => e2 a o (S.sub a o q), by simp [S.len], ?_, fun i a o' q1 q2 d => ?_, fun i a o' q1 q2 => ?_⟩⟩
  · exact List.nodup_append.mpr ⟨S.nd, by simp, fun a ha b hb => by
      have : b = p := by simpa using hb
      subst this
      exact fun z => S.new h (z ▸ ha)⟩
  · have q1' : (w.ρ ++ [p])[i]? = some a := q1
    by_cases hi : i < w.ρ.length
    · rw [List.getElem?_append_left hi] at q1'
      rw [List.getElem?_append_left (by rw [← S.len]; exact hi)] at q2
      exact S.fr i a o' q1' q2 d
    · have hi' : w.ρ.length ≤ i := Nat.le_of_not_lt hi
      rw [List.getElem?_append_right hi'] at q1'
      have : a = p := by
        have := List.mem_of_getElem? q1'
        simpa using this
      subst this
      exact S.newF h
  · have q1' : (w.ρ ++ [p])[i]? = some a := q1
    by_cases hi : i < w.ρ.length
    · rw [List.getElem?_append_left hi] at q1'
      rw [List.getElem?_append_left (by rw [← S.len]; exact hi)] at q2
      obtain ⟨ho', z1, z2⟩ := S.ob i a o' q1' q2
      exact ⟨ho', e2 a ho' z1, z2.mono ⟨[p], rfl⟩ fun _ _ q => q⟩
    · have hi' : w.ρ.length ≤ i := Nat.le_of_not_lt hi
      rw [List.getElem?_append_right hi'] at q1'
      rw [List.getElem?_append_right (by rw [← S.len]; exact hi')] at q2
      have ea : a = p := by
        have := List.mem_of_getElem? q1'
        simpa using this
      have eo : o' = o := by
        have := List.mem_of_getElem? q2
        simpa using this
      subst ea eo
      exact ⟨ho, upd_same, r.mono ⟨_, rfl⟩ fun _ _ q => q⟩
theorem SR.at_ (S : SR c w hs) (h : hs[i]? = some o) : ∃ a ho, w.ρ[i]? = some a ∧ w.H a = some ho ∧ RO c w.ρ w.F o ho := by
  have hi : i < w.ρ.length := by rw [S.len]; exact (List.getElem?_eq_some_iff.mp h).1
  obtain ⟨ho, q1, q2⟩ := S.ob i w.ρ[i] o (List.getElem?_eq_getElem hi) h
  exact ⟨_, ho, List.getElem?_eq_getElem hi, q1, q2⟩
theorem nodup_at {l : List Addr} (hN : l.Nodup) {i j : Nat} {x : Addr} (a : l[i]? = some x) (b : l[j]? = some x) : i = j := nd_ix hN a b
/-- a tracked object is changed -/
theorem SR.put (S : SR c w hs) (hi : w.ρ[i]? = some a) (hnd : ∃ o', hs[i]? = some o' ∧ o' ≠ .dead) (r : RO c w.ρ w.F o ho) : w.le ⟨w.ρ, w.F, upd w.H a ho⟩ ∧ SR c ⟨w.ρ, w.F, upd w.H a ho⟩ (hs.set i o) := by
  have ha : a ∈ w.ρ := List.mem_of_getElem? hi
  obtain ⟨o', h1, h2⟩ := hnd
  have hF := S.fr i a o' hi h1 h2
  have hlt : i < hs.length := (List.getElem?_eq_some_iff.mp h1).1
  have ne : ∀ x, x ∉ w.ρ → x ≠ a := fun x hx z => hx (z ▸ ha)
  refine ⟨⟨⟨[], by simp, by simp⟩, fun _ _ q => q, fun x u q hx => by show upd w.H a ho x = some u; rw [upd_ne (ne x hx)]; exact q, fun x u q => ?_, fun _ _ q => .inl q⟩, ⟨fun x u q => ?_, by simp [S.len], S.nd, fun j x u q1 q2 d => ?_, fun j x u q1 q2 => ?_⟩⟩
  · by_cases z : x = a
    · subst z; exact ⟨ho, upd_same⟩
    · exact ⟨u, by show upd w.H a ho x = some u; rw [upd_ne z]; exact q⟩
  · show upd w.H a ho x = some u
    rw [upd_ne (ne_of_none q hF)]
    exact S.sub x u q
  · by_cases hj : j = i
    · subst hj
      rw [hi] at q1; cases q1
      exact hF
    · rw [List.getElem?_set_ne (Ne.symm hj)] at q2
      exact S.fr j x u q1 q2 d
  · by_cases hj : j = i
    · subst hj
      rw [hi] at q1; cases q1
      rw [List.getElem?_set_self hlt] at q2
      cases q2
      exact ⟨ho, upd_same, r⟩
    · rw [List.getElem?_set_ne (Ne.symm hj)] at q2
      obtain ⟨ho', z1, z2⟩ := S.ob j x u q1 q2
      have xa : x ≠ a := fun z => hj (nodup_at S.nd q1 (z ▸ hi))
      exact ⟨ho', by show upd w.H a ho x = some ho'; rw [upd_ne xa]; exact z1, z2⟩
/-- a tracked object is frozen -/
theorem SR.freeze (S : SR c w hs) (hi : w.ρ[i]? = some a) (h1 : hs[i]? = some o) (h2 : o ≠ .dead) (e : w.H a = some ho) : w.le ⟨w.ρ, upd w.F a ho, w.H⟩ ∧ SR c ⟨w.ρ, upd w.F a ho, w.H⟩ (hs.set i .dead) := by
  have hF := S.fr i a o hi h1 h2
  have hlt : i < hs.length := (List.getElem?_eq_some_iff.mp h1).1
  have e1 : ∀ x u, w.F x = some u → upd w.F a ho x = some u := fun x u q => by rw [upd_ne (ne_of_none q hF)]; exact q
  refine ⟨⟨⟨[], by simp, by simp⟩, e1, fun _ _ q _ => q, fun _ u q => ⟨u, q⟩, fun x u q => ?_⟩, ⟨fun x u q => ?_, by simp [S.len], S.nd, fun j x u q1 q2 d => ?_, fun j x u q1 q2 => ?_⟩⟩
  · have q' : upd w.F a ho x = some u := q
    by_cases z : x = a
    · subst z; exact .inr (.inr (List.mem_of_getElem? hi))
    · rw [upd_ne z] at q'; exact .inl q'
  · have q' : upd w.F a ho x = some u := q
    by_cases z : x = a
    · subst z; rw [upd_same] at q'; cases q'; exact e
    · rw [upd_ne z] at q'; exact S.sub x u q'
  · show upd w.F a ho x = none
    by_cases hj : j = i
    · subst hj
      rw [List.getElem?_set_self hlt] at q2
      cases q2
      exact absurd rfl d
    · rw [List.getElem?_set_ne (Ne.symm hj)] at q2
      rw [upd_ne (fun z : x = a => hj (nodup_at S.nd q1 (by rw [z]; exact hi)))]
      exact S.fr j x u q1 q2 d
  · by_cases hj : j = i
    · subst hj
      rw [hi] at q1; cases q1
      rw [List.getElem?_set_self hlt] at q2
      cases q2
      exact ⟨ho, e, trivial⟩
    · rw [List.getElem?_set_ne (Ne.symm hj)] at q2
      obtain ⟨ho', z1, z2⟩ := S.ob j x u q1 q2
      exact ⟨ho', z1, z2.mono ⟨[], by simp⟩ e1⟩
/-- what H adds elsewhere (not tracked, not frozen) does not matter -/
theorem SR.heap (S : SR c w hs) {H' : Hp} (h : ∀ a o, w.H a = some o → H' a = some o) : w.le ⟨w.ρ, w.F, H'⟩ ∧ SR c ⟨w.ρ, w.F, H'⟩ hs :=
  ⟨⟨⟨[], by simp, by simp⟩, fun _ _ q => q, fun a o q _ => h a o q, fun a o q => ⟨o, h a o q⟩, fun _ _ q => .inl q⟩, ⟨fun a o q => h a o (S.sub a o q), S.len, S.nd, S.fr, fun i a o q1 q2 => let ⟨ho, z1, z2⟩ := S.ob i a o q1 q2; ⟨ho, h a ho z1, z2⟩⟩⟩
end
/-- an exception's own field -/
def Exn (c : Ct) (w : Wd) (p : D) (od : Option Addr) : Prop := (p = .non ∧ od = none) ∨ ∃ dd f d v, od = some dd ∧ p = .t [.str f, d] ∧ w.H dd = some (.xd [(f, v)]) ∧ Rp c w.ρ w.F d v
def PostG {α : Type} (c : Ct) (w : Wd) (r : R α) (P : α → Hs → Wd → Prop) (E : XK) : Prop := match r with
  | .ok a hs => ∀ w', w.le w' → SR c w' hs → P a hs w'
  | .exc x p hs => ∀ w' od, w.le w' → SR c w' hs → Exn c w' p od → E (.ref (c.G x)) od w'.H
  | .bad => False
abbrev Post (c : Ct) (w : Wd) (r : R D) (Q : VK) (E : XK) : Prop := PostG c w r (fun d _ w' => ∀ v, Rp c w'.ρ w'.F d v → Q v w'.H) E
def RE (c : Ct) (w : Wd) (fs : Fs) (σ : L2.St) : Prop := fs.length = σ.length ∧ ∀ (i : Nat) (d : D), fs[i]? = some (some d) → ∃ v, σ[i]? = some (some v) ∧ Rp c w.ρ w.F d v
def PostS (c : Ct) (w : Wd) (r : RS) (De : Ends) (W : WX) : Prop := match r with
  | .nx fs hs => ∀ w' σ', w.le w' → SR c w' hs → RE c w' fs σ' → De.nx σ' w'.H
  | .ret d hs => ∀ w' v, w.le w' → SR c w' hs → Rp c w'.ρ w'.F d v → De.rt v w'.H
  | .brk fs hs => ∀ w' σ', w.le w' → SR c w' hs → RE c w' fs σ' → De.bk σ' w'.H
  | .cnt fs hs => ∀ w' σ', w.le w' → SR c w' hs → RE c w' fs σ' → De.ct σ' w'.H
  | .exc x p fs hs => ∀ w' od σ', w.le w' → SR c w' hs → RE c w' fs σ' → Exn c w' p od → W (.ref (c.G x)) od σ' w'.H
  | .bad => False
section
variable {c : Ct} {w w' : Wd} {α β : Type} {E : XK}
theorem PostG.mono {r : R α} {P : α → Hs → Wd → Prop} (h : w.le w') (p : PostG c w r P E) : PostG c w' r P E := by
  cases r with
  | ok a hs => exact fun w2 l S => p w2 (h.trans l) S
  | exc x q hs => exact fun w2 od l S z => p w2 od (h.trans l) S z
  | bad => exact p
theorem PostG.bind {r : R α} {k : α → Hs → R β} {P : β → Hs → Wd → Prop} (p : PostG c w (r.bind k) P E) : PostG c w r (fun a hs w' => PostG c w' (k a hs) P E) E := by
  cases r with
  | ok a hs => exact fun w2 l S => p.mono l
  | exc x q hs => exact p
  | bad => exact p
theorem PostG.bindN {r : R α} {k : α → Hs → R β} {P : β → Hs → Wd → Prop} (p : PostG c w (r.bindN k) P E) : PostG c w r (fun a hs w' => PostG c w' (k a hs) P E) (fun _ _ _ => False) := by
  cases r with
  | ok a hs => exact fun w2 l S => p.mono l
  | exc x q hs => exact p.elim
  | bad => exact p
theorem PostG.imp {r : R α} {P P' : α → Hs → Wd → Prop} (p : PostG c w r P E) (h : ∀ a hs w', w.le w' → SR c w' hs → P a hs w' → P' a hs w') : PostG c w r P' E := by
  cases r with
  | ok a hs => exact fun w2 l S => h a hs w2 l S (p w2 l S)
  | exc x q hs => exact p
  | bad => exact p
/-- at hand -/
theorem PostG.now {a : α} {hs : Hs} {P : α → Hs → Wd → Prop} (p : PostG c w (.ok a hs) P E) (S : SR c w hs) : P a hs w := p w (Wd.le.refl w) S
theorem PostS.mono {r : RS} {De : Ends} {W : WX} (h : w.le w') (p : PostS c w r De W) : PostS c w' r De W := by
  cases r with
  | nx fs hs => exact fun w2 σ' l S e => p w2 σ' (h.trans l) S e
  | ret d hs => exact fun w2 v l S e => p w2 v (h.trans l) S e
  | brk fs hs => exact fun w2 σ' l S e => p w2 σ' (h.trans l) S e
  | cnt fs hs => exact fun w2 σ' l S e => p w2 σ' (h.trans l) S e
  | exc x q fs hs => exact fun w2 od σ' l S e z => p w2 od σ' (h.trans l) S e z
  | bad => exact p
theorem RE.le {fs : Fs} {σ : L2.St} (h : w.le w') (e : RE c w fs σ) : RE c w' fs σ := ⟨e.1, fun i d q => let ⟨v, z1, z2⟩ := e.2 i d q; ⟨v, z1, z2.le h⟩⟩
theorem RE.set {fs : Fs} {σ : L2.St} {i : Nat} {d : D} {v : V} (e : RE c w fs σ) (r : Rp c w.ρ w.F d v) : RE c w (fs.set i (some d)) (σ.set i (some v)) := by
  refine ⟨by simp [e.1], fun j x q => ?_⟩
  by_cases hj : j = i
  · subst hj
    have hl : j < fs.length := by
      have := (List.getElem?_eq_some_iff.mp q).1
      simpa using this
    rw [List.getElem?_set_self hl] at q
    cases q
    exact ⟨v, by rw [List.getElem?_set_self (by rw [← e.1]; exact hl)], r⟩
  · rw [List.getElem?_set_ne (Ne.symm hj)] at q
    obtain ⟨u, z1, z2⟩ := e.2 j x q
    exact ⟨u, by rw [List.getElem?_set_ne (Ne.symm hj)]; exact z1, z2⟩
theorem RE.get {fs : Fs} {σ : L2.St} {i : Nat} {d : D} (e : RE c w fs σ) (q : fs[i]? = some (some d)) : ∃ v, σ[i]? = some (some v) ∧ Rp c w.ρ w.F d v := e.2 i d q
theorem RE.wipe {fs : Fs} {σ : L2.St} (e : RE c w fs σ) : ∀ vs : List Nat, RE c w (Mm.wipe fs vs) (L2.wipe σ vs)
  | [] => e
  | v :: vs => by
    have ih := RE.wipe e vs
    unfold Mm.wipe L2.wipe
    refine ⟨by simp [ih.1], fun j x q => ?_⟩
    by_cases hj : j = v
    · subst hj
      have hl : j < (Mm.wipe fs vs).length := by
        have := (List.getElem?_eq_some_iff.mp q).1
        simpa using this
      rw [List.getElem?_set_self hl] at q
      cases q
    · rw [List.getElem?_set_ne (Ne.symm hj)] at q
      obtain ⟨u, z1, z2⟩ := ih.2 j x q
      exact ⟨u, by rw [List.getElem?_set_ne (Ne.symm hj)]; exact z1, z2⟩
/-- from an expression's post into the statement's -/
theorem PostS.bindS {r : R α} {k : α → Hs → RS} {De : Ends} {W : WX} {fs : Fs} {σ : L2.St} (p : PostS c w (R.bindS fs r k) De W) (e : RE c w fs σ) : PostG c w r (fun a hs w' => PostS c w' (k a hs) De W) (fun x d H => W x d σ H) := by
  cases r with
  | ok a hs => exact fun w2 l S => PostS.mono l p
  | exc x q hs => exact fun w2 od l S z => p w2 od σ l S (e.le l) z
  | bad => exact p
end
end Mm
namespace Mm
open PySem PySem.Spec PyProof.Rows L2
structure JE (c : Ct) (X : Cx) (W : WX) (e : Expr) (m : M) : Prop where
  ex : ∃ te : TE, PE X e te ∧ ∀ (w : Wd) (fs : Fs) (hs : Hs) (σ : L2.St) (Q : VK), SR c w hs → RE c w fs σ → Post c w (m fs hs) Q (fun k d H => W k d σ H) → te σ w.H Q
structure JT (c : Ct) (X : Cx) (W : WX) (e : Expr) (m : MT) : Prop where
  ex : ∃ te : TT, PT X e te ∧ ∀ (w : Wd) (fs : Fs) (hs : Hs) (σ : L2.St) (Q : Bool → Hp → Prop), SR c w hs → RE c w fs σ → PostG c w (m fs hs) (fun b _ w' => Q b w'.H) (fun k d H => W k d σ H) → te σ w.H Q
structure JW (c : Ct) (X : Cx) (W : WX) (e : Expr) (m : MT) : Prop where
  ex : ∃ te : TT, PW X e te ∧ ∀ (w : Wd) (fs : Fs) (hs : Hs) (σ : L2.St) (Q : Bool → Hp → Prop), SR c w hs → RE c w fs σ → PostG c w (m fs hs) (fun b _ w' => Q b w'.H) (fun k d H => W k d σ H) → te σ w.H Q
structure JA (c : Ct) (X : Cx) (W : WX) (es : List Expr) (m : MA) : Prop where
  ex : ∃ ta : TA, PA X es ta ∧ ∀ (w : Wd) (fs : Fs) (hs : Hs) (σ : L2.St) (Q : List V → Hp → Prop), SR c w hs → RE c w fs σ → PostG c w (m fs hs) (fun ds _ w' => ∀ vs, Rps c w'.ρ w'.F ds vs → Q vs w'.H) (fun k d H => W k d σ H) → ta σ w.H Q
structure JP (c : Ct) (X : Cx) (W : WX) (e : Option Expr) (m : MO) : Prop where
  ex : ∃ to : TO, PO X e to ∧ ∀ (w : Wd) (fs : Fs) (hs : Hs) (σ : L2.St) (Q : Option Int → Hp → Prop), SR c w hs → RE c w fs σ → PostG c w (m fs hs) (fun o _ w' => Q o w'.H) (fun k d H => W k d σ H) → to σ w.H Q
structure JG (c : Ct) (X : Cx) (W : WX) (e : Expr) (m : MG) : Prop where
  ex : ∃ tg : TG, PG X e tg ∧ ∀ (w : Wd) (fs : Fs) (hs : Hs) (σ : L2.St) (d : D) (v : V) (Q : L2.St → Hp → Prop), SR c w hs → RE c w fs σ → Rp c w.ρ w.F d v → PostG c w (m d fs hs) (fun fs' _ w' => ∀ σ', RE c w' fs' σ' → Q σ' w'.H) (fun k d H => W k d σ H) → tg v σ w.H Q
structure JGs (c : Ct) (X : Cx) (W : WX) (es : List Expr) (m : List D → Fs → Hs → R Fs) : Prop where
  ex : ∃ tg : TGs, PGs X es tg ∧ (∀ ds fs hs fs' hs', m ds fs hs = .ok fs' hs' → ds.length = es.length) ∧ (∀ ds fs hs x p h, m ds fs hs ≠ .exc x p h) ∧ ∀ (w : Wd) (fs : Fs) (hs : Hs) (σ : L2.St) (ds : List D) (vs : List V) (Q : L2.St → Hp → Prop), SR c w hs → RE c w fs σ → Rps c w.ρ w.F ds vs → PostG c w (m ds fs hs) (fun fs' _ w' => ∀ σ', RE c w' fs' σ' → Q σ' w'.H) (fun k d H => W k d σ H) → tg vs σ w.H Q
structure JS (c : Ct) (X : Cx) (W : WX) (st : Stmt) (m : MS) : Prop where
  ex : ∃ ts : TS, PS X st ts ∧ ∀ (w : Wd) (fs : Fs) (hs : Hs) (σ : L2.St) (De : Ends), SR c w hs → RE c w fs σ → PostS c w (m fs hs) De W → ts De σ w.H
structure JSs (c : Ct) (X : Cx) (W : WX) (st : List Stmt) (m : MS) : Prop where
  ex : ∃ ts : TS, PSs X st ts ∧ ∀ (w : Wd) (fs : Fs) (hs : Hs) (σ : L2.St) (De : Ends), SR c w hs → RE c w fs σ → PostS c w (m fs hs) De W → ts De σ w.H
/-- J walks these items -/
structure SrcOk (c : Ct) (J : It) (w : Wd) (ds : List D) (k : Option (Nat × List D)) : Prop where
  go : ∀ (i : Nat) (d : D) (w' : Wd) (hs' : Hs), w.le w' → SR c w' hs' → stands k hs' → ds[i]? = some d → J.go i w'.H ∧ ∀ x H', J.yld i w'.H x H' → ∃ w'' : Wd, w'.le w'' ∧ w''.H = H' ∧ SR c w'' hs' ∧ Rp c w''.ρ w''.F d x
  stop : ∀ (w' : Wd) (hs' : Hs), w.le w' → SR c w' hs' → stands k hs' → J.stop ds.length w'.H
structure JI (c : Ct) (X : Cx) (W : WX) (tg iter : Expr) (m : MI) : Prop where
  ex : ∃ wi : TI, PI X tg iter wi ∧ ∀ (w : Wd) (fs : Fs) (hs : Hs) (σ : L2.St) (Rr : It → Hp → Prop), SR c w hs → RE c w fs σ → PostG c w (m fs hs) (fun p _ w' => ∀ J, SrcOk c J w' p.1 p.2 → Rr J w'.H) (fun k d H => W k d σ H) → wi σ w.H Rr
structure JO (c : Ct) (X : Cx) (f : Value → Value → Sem Value) (op : D → D → Hs → R D) : Prop where
  ex : ∃ r : R2, OpR X f r ∧ ∀ (w : Wd) (hs : Hs) (x y : D) (vx vy : V) (Q : VK) (E : XK), SR c w hs → Rp c w.ρ w.F x vx → Rp c w.ρ w.F y vy → Post c w (op x y hs) Q E → r vx vy w.H Q
structure JX (c : Ct) (X : Cx) (op : D → D → Hs → R D) : Prop where
  ex : ∃ r : R2, IxR X r ∧ ∀ (w : Wd) (hs : Hs) (x y : D) (vx vy : V) (Q : VK) (E : XK), SR c w hs → Rp c w.ρ w.F x vx → Rp c w.ρ w.F y vy → Post c w (op x y hs) Q E → r vx vy w.H Q
structure JU (c : Ct) (X : Cx) (f : Value → Sem Value) (op : D → Hs → R D) : Prop where
  ex : ∃ r : V → Hp → VK → Prop, UnR X f r ∧ ∀ (w : Wd) (hs : Hs) (x : D) (vx : V) (Q : VK) (E : XK), SR c w hs → Rp c w.ρ w.F x vx → Post c w (op x hs) Q E → r vx w.H Q
structure JC (c : Ct) (X : Cx) (f : Value) (op : List D → Hs → R D) : Prop where
  ex : ∃ r : List V → Hp → VK → Prop, CallR X f r ∧ ∀ (w : Wd) (hs : Hs) (ds : List D) (vs : List V) (Q : VK) (E : XK), SR c w hs → Rps c w.ρ w.F ds vs → Post c w (op ds hs) Q E → r vs w.H Q
structure JM (c : Ct) (X : Cx) (T id : String) (op : D → List D → Hs → R D) : Prop where
  ex : ∃ r : V → List V → Hp → VK → Prop, MtR X id r ∧ ∀ (w : Wd) (hs : Hs) (x : D) (ds : List D) (vx : V) (vs : List V) (Q : VK) (E : XK), SR c w hs → Rp c w.ρ w.F x vx → Rps c w.ρ w.F ds vs → Post c w (op x ds hs) Q E → r vx vs w.H Q
structure JSl (c : Ct) (X : Cx) (op : D → Option Int → Option Int → Hs → R D) : Prop where
  ex : ∃ r : V → Option Int → Option Int → Hp → VK → Prop, SlR X r ∧ ∀ (w : Wd) (hs : Hs) (x : D) (vx : V) (lo hi : Option Int) (Q : VK) (E : XK), SR c w hs → Rp c w.ρ w.F x vx → Post c w (op x lo hi hs) Q E → r vx lo hi w.H Q
structure JSet (c : Ct) (X : Cx) (op : D → D → D → Hs → R Unit) : Prop where
  ex : ∃ r : TSet, PSet X r ∧ ∀ (w : Wd) (hs : Hs) (o i v : D) (vo vi vv : V) (Q : Hp → Prop) (E : XK), SR c w hs → Rp c w.ρ w.F o vo → Rp c w.ρ w.F i vi → Rp c w.ρ w.F v vv → PostG c w (op o i v hs) (fun _ _ w' => Q w'.H) E → r vo vi vv w.H Q
section
variable {c : Ct} {X : Cx} {W : WX} {a b e : Expr} {es : List Expr} {ma mb mc : M} {mas : MA} {pos : Pos}
theorem je_var (i : Nat) {x : Str} (hN : X.N[i]? = some x := by rfl) (hv : Vis X.env.scope x := by first | exact Or.inl rfl | exact Or.inr (Or.inl rfl) | exact Or.inr (Or.inr rfl)) (hd : (x == ("__debug__" : Str)) = false := by decide)
    (hcd : (x == ("__classdict__" : Str)) = false := by decide) : JE c X W (.Name x pos) (eVar i) := by
  refine ⟨_, pe_var hN hv hd hcd, fun w fs hs σ Q S E h => ?_⟩
  unfold eVar at h
  cases q : fs[i]? with
  | none => rw [q] at h; exact h.elim
  | some o =>
    cases o with
    | none => rw [q] at h; exact h.elim
    | some d =>
      rw [q] at h
      obtain ⟨v, e1, r⟩ := E.get q
      exact ⟨v, e1, h.now S v r⟩
theorem je_c {d : D} {v : V} (h : PE X e (tC v)) (r : ∀ ρ F, Rp c ρ F d v) : JE c X W e (eC d) :=
  ⟨_, h, fun w fs hs σ Q S E p => p.now S v (r _ _)⟩
theorem je_int {i : Int} {j} : JE c X W (.Constant (.int i) j pos) (eC (.int i)) := je_c pe_int fun _ _ => rfl
theorem je_bl {i : Bool} {j} : JE c X W (.Constant (.bool i) j pos) (eC (.bl i)) := je_c pe_bl fun _ _ => rfl
theorem je_non {j} : JE c X W (.Constant .none j pos) (eC .non) := je_c pe_non fun _ _ => rfl
theorem je_str {x : Str} {j} : JE c X W (.Constant (.str x) j pos) (eC (.str x)) := je_c pe_str fun _ _ => rfl
/-- a module's constant number -/
theorem je_gint {x : Str} {i : Int} (hg : Gl X x) (hm : ∃ t, X.mg x = some (.int i t)) (hd : (x == ("__debug__" : Str)) = false := by decide) : JE c X W (.Name x pos) (eC (.int i)) := by
  obtain ⟨t, hm⟩ := hm
  exact je_c (pe_glob (v := .int i) hg hm ⟨t, rfl⟩ hd) fun _ _ => rfl
/-- a module's name that stands for an object of the text, as data d -/
theorem je_glob {x : Str} {a : Addr} {d : D} (hg : Gl X x) (hm : X.mg x = some (.ref a)) (r : ∀ ρ F, Rp c ρ F d (.ref a)) (hd : (x == ("__debug__" : Str)) = false := by decide) : JE c X W (.Name x pos) (eC d) :=
  je_c (pe_glob (v := .ref a) hg hm rfl hd) r
theorem je_bin {op : Operator} {f : D → D → Hs → R D} (ho : JO c X (binaryOp op) f) (ha : JE c X W a ma) (hb : JE c X W b mb) : JE c X W (.BinOp a op b pos) (eBin f ma mb) := by
  obtain ⟨r, pr, sr⟩ := ho.ex; obtain ⟨ta, pa, sa⟩ := ha.ex; obtain ⟨tb, pb, sb⟩ := hb.ex
  refine ⟨_, pe_op pr pa pb, fun w fs hs σ Q S E h => ?_⟩
  refine sa w fs hs σ _ S E (h.bind.imp fun x h1 w1 l1 S1 p1 v1 r1 => ?_)
  refine sb w1 fs h1 σ _ S1 (E.le l1) (p1.bind.imp fun y h2 w2 l2 S2 p2 v2 r2 => ?_)
  exact sr w2 h2 x y v1 v2 Q _ S2 (r1.le l2) r2 p2
theorem je_cmp {op : CmpOp} {f : D → D → Hs → R D} (ho : JO c X (compareOp op) f) (ha : JE c X W a ma) (hb : JE c X W b mb) (hm : behindInMarks op b = false := by first | exact nomark _ | rfl) : JE c X W (.Compare a [op] [b] pos) (eBin f ma mb) := by
  obtain ⟨r, pr, sr⟩ := ho.ex; obtain ⟨ta, pa, sa⟩ := ha.ex; obtain ⟨tb, pb, sb⟩ := hb.ex
  refine ⟨_, pe_cmpR pr pa pb hm, fun w fs hs σ Q S E h => ?_⟩
  refine sa w fs hs σ _ S E (h.bind.imp fun x h1 w1 l1 S1 p1 v1 r1 => ?_)
  refine sb w1 fs h1 σ _ S1 (E.le l1) (p1.bind.imp fun y h2 w2 l2 S2 p2 v2 r2 => ?_)
  exact sr w2 h2 x y v1 v2 Q _ S2 (r1.le l2) r2 p2
theorem je_ix {f : D → D → Hs → R D} (ho : JX c X f) (ha : JE c X W a ma) (hb : JE c X W b mb) (hs : PlainIx b := by exact fun _ _ => rfl) : JE c X W (.Subscript a b pos) (eBin f ma mb) := by
  obtain ⟨r, pr, sr⟩ := ho.ex; obtain ⟨ta, pa, sa⟩ := ha.ex; obtain ⟨tb, pb, sb⟩ := hb.ex
  refine ⟨_, pe_ix pr pa pb hs, fun w fs hs σ Q S E h => ?_⟩
  refine sa w fs hs σ _ S E (h.bind.imp fun x h1 w1 l1 S1 p1 v1 r1 => ?_)
  refine sb w1 fs h1 σ _ S1 (E.le l1) (p1.bind.imp fun y h2 w2 l2 S2 p2 v2 r2 => ?_)
  exact sr w2 h2 x y v1 v2 Q _ S2 (r1.le l2) r2 p2
theorem je_un {op : UnaryOp} {f : D → Hs → R D} (ho : JU c X (unaryOp op) f) (ha : JE c X W a ma) : JE c X W (.UnaryOp op a pos) (eUn f ma) := by
  obtain ⟨r, pr, sr⟩ := ho.ex; obtain ⟨ta, pa, sa⟩ := ha.ex
  refine ⟨_, pe_un pr pa, fun w fs hs σ Q S E h => ?_⟩
  refine sa w fs hs σ _ S E (h.bind.imp fun x h1 w1 l1 S1 p1 v1 r1 => ?_)
  exact sr w1 h1 x v1 Q _ S1 r1 p1
/-- freezing, opening: nothing happens -/
theorem je_ghost {f : D → Hs → R D} (hf : ∀ (w : Wd) (hs : Hs) (x : D) (vx : V) (Q : VK) (E : XK), SR c w hs → Rp c w.ρ w.F x vx → Post c w (f x hs) Q E → Q vx w.H) (ha : JE c X W e ma) : JE c X W e (eUn f ma) := by
  obtain ⟨ta, pa, sa⟩ := ha.ex
  refine ⟨_, pa, fun w fs hs σ Q S E h => ?_⟩
  exact sa w fs hs σ _ S E (h.bind.imp fun x h1 w1 l1 S1 p1 v1 r1 => hf w1 h1 x v1 Q _ S1 r1 p1)
theorem ja_nil : JA c X W [] aNil := ⟨_, pa_nil, fun w fs hs σ Q S E h => h.now S [] Rps.nil⟩
theorem ja_cons (ha : JE c X W e ma) (hr : JA c X W es mas) (hs : starEach (e :: es) X.env = (false, eval e X.env) :: starEach es X.env := by rfl) : JA c X W (e :: es) (aCons ma mas) := by
  obtain ⟨ta, pa, sa⟩ := ha.ex; obtain ⟨tr, pr, sr⟩ := hr.ex
  refine ⟨_, pa_cons pa pr hs, fun w fs hs σ Q S E h => ?_⟩
  refine sa w fs hs σ _ S E (h.bind.imp fun x h1 w1 l1 S1 p1 v1 r1 => ?_)
  refine sr w1 fs h1 σ _ S1 (E.le l1) (p1.bind.imp fun xs h2 w2 l2 S2 p2 vs rs => ?_)
  exact p2.now S2 (v1 :: vs) (.cons (r1.le l2) rs)
theorem je_and {bs : List Expr} (ha : JE c X W a ma) (hb : JE c X W (.BoolOp .And (b :: bs) pos) mb) : JE c X W (.BoolOp .And (a :: b :: bs) pos) (eAnd ma mb) := by
  obtain ⟨ta, pa, sa⟩ := ha.ex; obtain ⟨tb, pb, sb⟩ := hb.ex
  refine ⟨_, pe_and pa pb, fun w fs hs σ Q S E h => ?_⟩
  refine sa w fs hs σ _ S E (h.bind.imp fun x h1 w1 l1 S1 p1 v1 r1 => ?_)
  cases x <;> first | exact p1.elim | skip
  rename_i k
  obtain rfl : v1 = .bl k := r1
  refine ⟨k, rfl, ?_⟩
  cases k with
  | true => exact sb w1 fs h1 σ Q S1 (E.le l1) p1
  | false => exact p1.now S1 _ rfl
theorem je_one {op} (h : JE c X W a ma) : JE c X W (.BoolOp op [a] pos) ma := let ⟨t, p, s⟩ := h.ex; ⟨t, pe_one p, s⟩
theorem je_not (ha : JE c X W a ma) : JE c X W (.UnaryOp .Not a pos) (eNot ma) := by
  obtain ⟨ta, pa, sa⟩ := ha.ex
  refine ⟨_, pe_not pa, fun w fs hs σ Q S E h => ?_⟩
  refine sa w fs hs σ _ S E (h.bind.imp fun x h1 w1 l1 S1 p1 v1 r1 => ?_)
  cases x <;> first | exact p1.elim | skip
  rename_i k
  obtain rfl : v1 = .bl k := r1
  exact ⟨k, rfl, p1.now S1 _ rfl⟩
theorem je_if {t : Expr} {mt : MT} (ht : JT c X W t mt) (ha : JE c X W a ma) (hb : JE c X W b mb) : JE c X W (.IfExp t a b pos) (eIf mt ma mb) := by
  obtain ⟨tt, pt, st⟩ := ht.ex; obtain ⟨ta, pa, sa⟩ := ha.ex; obtain ⟨tb, pb, sb⟩ := hb.ex
  refine ⟨_, pe_ifExp pt pa pb, fun w fs hs σ Q S E h => ?_⟩
  refine st w fs hs σ _ S E (h.bind.imp fun k h1 w1 l1 S1 p1 => ?_)
  cases k with
  | true => exact sa w1 fs h1 σ Q S1 (E.le l1) p1
  | false => exact sb w1 fs h1 σ Q S1 (E.le l1) p1
theorem je_chain {op op' : CmpOp} {f f' : D → D → Hs → R D} {d : Expr} (ho : JO c X (compareOp op) f) (ho' : JO c X (compareOp op') f') (ha : JE c X W a ma) (hb : JE c X W b mb) (hc : JE c X W d mc)
    (hm : lastMarks [op, op'] [b, d] = false := by with_unfolding_all rfl) : JE c X W (.Compare a [op, op'] [b, d] pos) (eChain f f' ma mb mc) := by
  obtain ⟨r, pr, sr⟩ := ho.ex; obtain ⟨r', pr', sr'⟩ := ho'.ex; obtain ⟨ta, pa, sa⟩ := ha.ex; obtain ⟨tb, pb, sb⟩ := hb.ex; obtain ⟨tc, pc, sc⟩ := hc.ex
  refine ⟨_, pe_chain pr pr' pa pb pc hm, fun w fs hs σ Q S E h => ?_⟩
  refine sa w fs hs σ _ S E (h.bind.imp fun x h1 w1 l1 S1 p1 v1 r1 => ?_)
  refine sb w1 fs h1 σ _ S1 (E.le l1) (p1.bind.imp fun y h2 w2 l2 S2 p2 v2 r2 => ?_)
  refine sr w2 h2 x y v1 v2 _ _ S2 (r1.le l2) r2 (p2.bind.imp fun z h3 w3 l3 S3 p3 v3 r3 => ?_)
  cases z <;> first | exact p3.elim | skip
  rename_i k
  obtain rfl : v3 = .bl k := r3
  refine ⟨k, rfl, ?_⟩
  cases k with
  | true =>
    refine sc w3 fs h3 σ _ S3 (((E.le l1).le l2).le l3) (PostG.imp (PostG.bind (show PostG c w3 ((mc fs h3).bind fun u h4 => f' y u h4) _ _ from p3)) fun u h4 w4 l4 S4 p4 v4 r4 => ?_)
    exact sr' w4 h4 y u v2 v4 Q _ S4 ((r2.le l3).le l4) r4 p4
  | false => exact p3.now S3 _ rfl
theorem jt_cmp {op : CmpOp} {f : D → D → Hs → R D} (ho : JO c X (compareOp op) f) (ha : JE c X W a ma) (hb : JE c X W b mb) (hm : behindInMarks op b = false := by first | exact nomark _ | rfl) : JT c X W (.Compare a [op] [b] pos) (tVal (eBin f ma mb)) := by
  obtain ⟨r, pr, sr⟩ := ho.ex; obtain ⟨ta, pa, sa⟩ := ha.ex; obtain ⟨tb, pb, sb⟩ := hb.ex
  refine ⟨_, pt_cmpR pr pa pb hm, fun w fs hs σ Q S E h => ?_⟩
  have h' := (PostG.bind h)
  have h2 := PostG.bind h'
  refine sa w fs hs σ _ S E (h2.imp fun x h1 w1 l1 S1 p1 v1 r1 => ?_)
  refine sb w1 fs h1 σ _ S1 (E.le l1) ((PostG.bind p1).imp fun y h2 w2 l2 S2 p2 v2 r2 => ?_)
  refine sr w2 h2 x y v1 v2 _ _ S2 (r1.le l2) r2 (p2.imp fun z h3 w3 l3 S3 p3 v3 r3 => ?_)
  cases z <;> first | exact p3.elim | skip
  rename_i k
  obtain rfl : v3 = .bl k := r3
  exact ⟨k, rfl, p3.now S3⟩
theorem jt_val (ha : JE c X W a ma) (he : ∀ whole, isTrue a X.env whole = (do let v ← whole; standAt a.pos; holding [v] (truthy v)) := by intro _; rfl) : JT c X W a (tVal ma) := by
  obtain ⟨ta, pa, sa⟩ := ha.ex
  refine ⟨_, pt_val pa he, fun w fs hs σ Q S E h => ?_⟩
  refine sa w fs hs σ _ S E ((PostG.bind h).imp fun x h1 w1 l1 S1 p1 v1 r1 => ?_)
  cases x <;> first | exact p1.elim | skip
  rename_i k
  obtain rfl : v1 = .bl k := r1
  exact ⟨k, rfl, p1.now S1⟩
variable {mt mu : MT} {ts : List Expr}
theorem JW.pt (h : JW c X W e mt) : JT c X W e mt := let ⟨t, p, s⟩ := h.ex; ⟨t, p.pt, s⟩
theorem jw_and1 (h : JT c X W a mt) : JW c X W (.BoolOp .And [a] pos) mt := let ⟨t, p, s⟩ := h.ex; ⟨t, pw_and1 p, s⟩
theorem jw_or1 (h : JT c X W a mt) : JW c X W (.BoolOp .Or [a] pos) mt := let ⟨t, p, s⟩ := h.ex; ⟨t, pw_or1 p, s⟩
theorem jw_and (ha : JT c X W a mt) (hb : JW c X W (.BoolOp .And (b :: ts) pos) mu) : JW c X W (.BoolOp .And (a :: b :: ts) pos) (tAnd mt mu) := by
  obtain ⟨ta, pa, sa⟩ := ha.ex; obtain ⟨tb, pb, sb⟩ := hb.ex
  refine ⟨_, pw_and pa pb, fun w fs hs σ Q S E h => ?_⟩
  refine sa w fs hs σ _ S E (h.bind.imp fun k h1 w1 l1 S1 p1 => ?_)
  cases k with
  | true => exact sb w1 fs h1 σ Q S1 (E.le l1) p1
  | false => exact p1.now S1
theorem jw_or (ha : JT c X W a mt) (hb : JW c X W (.BoolOp .Or (b :: ts) pos) mu) : JW c X W (.BoolOp .Or (a :: b :: ts) pos) (tOr mt mu) := by
  obtain ⟨ta, pa, sa⟩ := ha.ex; obtain ⟨tb, pb, sb⟩ := hb.ex
  refine ⟨_, pw_or pa pb, fun w fs hs σ Q S E h => ?_⟩
  refine sa w fs hs σ _ S E (h.bind.imp fun k h1 w1 l1 S1 p1 => ?_)
  cases k with
  | true => exact p1.now S1
  | false => exact sb w1 fs h1 σ Q S1 (E.le l1) p1
theorem jt_not (ha : JT c X W a mt) : JT c X W (.UnaryOp .Not a pos) (tNot mt) := by
  obtain ⟨ta, pa, sa⟩ := ha.ex
  refine ⟨_, pt_not pa, fun w fs hs σ Q S E h => ?_⟩
  exact sa w fs hs σ _ S E (h.bind.imp fun k h1 w1 l1 S1 p1 => p1.now S1)
theorem jp_none : JP c X W none oNone := ⟨_, po_none, fun w fs hs σ Q S E h => h.now S⟩
theorem jp_some (ha : JE c X W a ma) : JP c X W (some a) (oSome ma) := by
  obtain ⟨ta, pa, sa⟩ := ha.ex
  refine ⟨_, po_some pa, fun w fs hs σ Q S E h => ?_⟩
  refine sa w fs hs σ _ S E (h.bind.imp fun x h1 w1 l1 S1 p1 v1 r1 => ?_)
  cases x <;> first | exact p1.elim | skip
  rename_i k
  exact ⟨k, r1, p1.now S1⟩
theorem je_sl {f : D → Option Int → Option Int → Hs → R D} {lo hi : Option Expr} {ml mh : MO} {p2 : Pos} (ho : JSl c X f) (ha : JE c X W a ma) (hl : JP c X W lo ml) (hh : JP c X W hi mh) : JE c X W (.Subscript a (.Slice lo hi none p2) pos) (eSl f ma ml mh) := by
  obtain ⟨r, pr, sr⟩ := ho.ex; obtain ⟨ta, pa, sa⟩ := ha.ex; obtain ⟨tl, pl, sl⟩ := hl.ex; obtain ⟨th, ph, sh⟩ := hh.ex
  refine ⟨_, pe_slice pr pa pl ph, fun w fs hs σ Q S E h => ?_⟩
  refine sa w fs hs σ _ S E (h.bind.imp fun x h1 w1 l1 S1 p1 v1 r1 => ?_)
  refine sl w1 fs h1 σ _ S1 (E.le l1) (p1.bind.imp fun l h2 w2 l2 S2 p2 => ?_)
  refine sh w2 fs h2 σ _ S2 ((E.le l1).le l2) (p2.bind.imp fun u h3 w3 l3 S3 p3 => ?_)
  exact sr w3 h3 x v1 l u Q _ S3 ((r1.le l2).le l3) p3
def vTup : List D → Hs → R D := fun ds hs => if ds.length ≤ 100000 then .ok (.t ds) hs else .bad
def vLst : List D → Hs → R D := fun ds hs => if ds.length ≤ 100000 then .ok (.l ds) hs else .bad
def vLstO : List D → Hs → R D := fun ds hs => if ds.length ≤ 100000 then .ok (.loc hs.length) (hs ++ [.lst ds]) else .bad
theorem sz_le {n : Nat} (h : n ≤ 100000) : n ≤ sizeLine := Nat.le_trans h (by decide)
theorem sz_lt {n : Nat} (h : n < 100000) : n < sizeLine := Nat.lt_of_lt_of_le h (by decide)
theorem rp_t {ρ : List Addr} {F : Hp} {p : Addr} {ds : List D} {vs : List V} (r : Rps c ρ F ds vs) (h : F p = some (.tup vs)) : Rp c ρ F (.t ds) (.ref p) := by
  unfold Rp; exact ⟨p, vs, rfl, h, r⟩
theorem rp_l {ρ : List Addr} {F : Hp} {p : Addr} {ds : List D} {vs : List V} (r : Rps c ρ F ds vs) (h : F p = some (.lst vs)) : Rp c ρ F (.l ds) (.ref p) := by
  unfold Rp; exact ⟨p, vs, rfl, h, r⟩
theorem rp_loc {ρ : List Addr} {F : Hp} {p : Addr} {n : Nat} (h : ρ[n]? = some p) : Rp c ρ F (.loc n) (.ref p) := by
  unfold Rp; exact ⟨p, rfl, h⟩
/-- a new tuple, by its post -/
theorem new_tup {w : Wd} {hs : Hs} {ds : List D} {vs : List V} {Q : VK} {E : XK} (S : SR c w hs) (r : Rps c w.ρ w.F ds vs) (h : Post c w (.ok (.t ds) hs) Q E) {p : Addr} (hp : w.H p = none) : Q (.ref p) (upd w.H p (.tup vs)) := by
  obtain ⟨l, S'⟩ := S.froz hp (.tup vs)
  exact h _ l S' (.ref p) (rp_t (r.le l) upd_same)
theorem new_lst {w : Wd} {hs : Hs} {ds : List D} {vs : List V} {Q : VK} {E : XK} (S : SR c w hs) (r : Rps c w.ρ w.F ds vs) (h : Post c w (.ok (.l ds) hs) Q E) {p : Addr} (hp : w.H p = none) : Q (.ref p) (upd w.H p (.lst vs)) := by
  obtain ⟨l, S'⟩ := S.froz hp (.lst vs)
  exact h _ l S' (.ref p) (rp_l (r.le l) upd_same)
theorem new_lstO {w : Wd} {hs : Hs} {ds : List D} {vs : List V} {Q : VK} {E : XK} (S : SR c w hs) (r : Rps c w.ρ w.F ds vs) (h : Post c w (.ok (.loc hs.length) (hs ++ [.lst ds])) Q E) {p : Addr} (hp : w.H p = none) : Q (.ref p) (upd w.H p (.lst vs)) := by
  obtain ⟨l, S'⟩ := S.push (o := .lst ds) (ho := .lst vs) hp ⟨vs, rfl, r⟩
  refine h _ l S' (.ref p) (rp_loc ?_)
  show (w.ρ ++ [p])[hs.length]? = some p
  rw [← S.len]; simp
theorem je_tup {k} (h : JA c X W es mas) : JE c X W (.Tuple es k pos) (eArgs vTup mas) := by
  obtain ⟨ta, pa, sa⟩ := h.ex
  refine ⟨_, pe_tup pa, fun w fs hs σ Q S E h => ?_⟩
  refine sa w fs hs σ _ S E (h.bind.imp fun ds h1 w1 l1 S1 p1 vs rs => ?_)
  unfold vTup at p1
  split at p1
  · rename_i hl
    exact ⟨by rw [rs.length]; exact sz_le hl, fun p hp => new_tup S1 rs p1 hp⟩
  · exact p1.elim
theorem je_lst (h : JA c X W es mas) : JE c X W (.List es pos) (eArgs vLst mas) := by
  obtain ⟨ta, pa, sa⟩ := h.ex
  refine ⟨_, pe_lst pa, fun w fs hs σ Q S E h => ?_⟩
  refine sa w fs hs σ _ S E (h.bind.imp fun ds h1 w1 l1 S1 p1 vs rs => ?_)
  unfold vLst at p1
  split at p1
  · rename_i hl
    exact ⟨by rw [rs.length]; exact sz_le hl, fun p hp => new_lst S1 rs p1 hp⟩
  · exact p1.elim
theorem je_lstO (h : JA c X W es mas) : JE c X W (.List es pos) (eArgs vLstO mas) := by
  obtain ⟨ta, pa, sa⟩ := h.ex
  refine ⟨_, pe_lst pa, fun w fs hs σ Q S E h => ?_⟩
  refine sa w fs hs σ _ S E (h.bind.imp fun ds h1 w1 l1 S1 p1 vs rs => ?_)
  unfold vLstO at p1
  split at p1
  · rename_i hl
    exact ⟨by rw [rs.length]; exact sz_le hl, fun p hp => new_lstO S1 rs p1 hp⟩
  · exact p1.elim
theorem je_callB {id : String} {x : Str} {p : Pos} {f : List D → Hs → R D} (hc : JC c X (.builtin id) f) (hg : Gl X x) (hm : X.mg x = none) (hv : bootBuiltins x = some (.builtin id)) (ha : JA c X W (e :: es) mas) (hn : x ≠ "__name__" := by decide) (hdb : (x == ("__debug__" : Str)) = false := by decide)
    (he : starEach (e :: es) X.env = (false, eval e X.env) :: starEach es X.env := by rfl) (hpl : (backTo pos (starEach es X.env)).any (·.1) = false := by rfl) : JE c X W (.Call (.Name x p) (e :: es) [] pos) (eArgs f mas) := by
  obtain ⟨r, pr, sr⟩ := hc.ex; obtain ⟨ta, pa, sa⟩ := ha.ex
  refine ⟨_, pe_callB pr hg hm hv pa hn hdb he hpl, fun w fs hs σ Q S E h => ?_⟩
  exact sa w fs hs σ _ S E (h.bind.imp fun ds h1 w1 l1 S1 p1 vs rs => sr w1 h1 ds vs Q _ S1 rs p1)
theorem je_callTy {T : String} {x : Str} {p : Pos} {f : List D → Hs → R D} (hc : JC c X (.type T) f) (hg : Gl X x) (hm : X.mg x = none) (hv : bootBuiltins x = some (.type T)) (ha : JA c X W (e :: es) mas) (hn : x ≠ "__name__" := by decide) (hdb : (x == ("__debug__" : Str)) = false := by decide)
    (he : starEach (e :: es) X.env = (false, eval e X.env) :: starEach es X.env := by rfl) (hpl : (backTo pos (starEach es X.env)).any (·.1) = false := by rfl) : JE c X W (.Call (.Name x p) (e :: es) [] pos) (eArgs f mas) := by
  obtain ⟨r, pr, sr⟩ := hc.ex; obtain ⟨ta, pa, sa⟩ := ha.ex
  refine ⟨_, pe_callTy pr hg hm hv pa hn hdb he hpl, fun w fs hs σ Q S E h => ?_⟩
  exact sa w fs hs σ _ S E (h.bind.imp fun ds h1 w1 l1 S1 p1 vs rs => sr w1 h1 ds vs Q _ S1 rs p1)
end
end Mm
namespace Mm
open PySem PySem.Spec PyProof.Rows L2
section
variable {c : Ct} {X : Cx} {W : WX} {a b e : Expr} {es : List Expr} {ma mb mc : M} {mas : MA} {pos : Pos} {st : Stmt} {sts : List Stmt} {m m1 m2 : MS}
theorem jg_name (i : Nat) {x : Str} (hN : X.N.Nodup) (hi : X.N[i]? = some x := by rfl) (hx : Loc X.env.scope x := by first | exact Or.inl rfl | exact Or.inr rfl) (hf : X.fn x = true ∨ X.env.scope.names.lookup x = some .local := by first | exact .inl rfl | exact .inr rfl) : JG c X W (.Name x pos) (Mm.gName i) :=
  ⟨_, pg_name hN hi hx hf, fun w fs hs σ d v Q S E r h => h.now S _ (E.set r)⟩
theorem jgs_nil : JGs c X W [] Mm.gNil := by
  refine ⟨_, pgs_nil, fun ds fs hs fs' hs' h => ?_, fun ds fs hs x p h => ?_, fun w fs hs σ ds vs Q S E r h => ?_⟩
  · unfold Mm.gNil at h
    split at h
    · rfl
    · cases h
  · unfold Mm.gNil
    split <;> simp
  · unfold Mm.gNil at h
    split at h
    · unfold Rps at r
      subst r
      exact ⟨rfl, h.now S _ E⟩
    · exact h.elim
theorem jgs_name (i : Nat) {x : Str} {g : List D → Fs → Hs → R Fs} (hN : X.N.Nodup) (hr : JGs c X W es g) (hi : X.N[i]? = some x := by rfl) (hx : Loc X.env.scope x := by first | exact Or.inl rfl | exact Or.inr rfl) (hf : X.fn x = true ∨ X.env.scope.names.lookup x = some .local := by first | exact .inl rfl | exact .inr rfl) :
    JGs c X W (.Name x pos :: es) (Mm.gCons (Mm.gName i) g) := by
  obtain ⟨tr, pr, len, nex, sr⟩ := hr.ex
  refine ⟨_, pgs_cons (pg_name hN hi hx hf) pr, fun ds fs hs fs' hs' h => ?_, fun ds fs hs x p h => ?_, fun w fs hs σ ds vs Q S E r h => ?_⟩
  · cases ds with
    | nil => simp [Mm.gCons] at h
    | cons d ds =>
      simp only [Mm.gCons, Mm.gName, R.bind_ok] at h
      simp [len _ _ _ _ _ h]
  · cases ds with
    | nil => simp [Mm.gCons]
    | cons d ds =>
      simp only [Mm.gCons, Mm.gName, R.bind_ok]
      exact nex _ _ _ _ _ _
  · cases ds with
    | nil => exact h.elim
    | cons d ds =>
      unfold Rps at r
      obtain ⟨v, r', rfl, h1, h2⟩ := r
      simp only [Mm.gCons, Mm.gName, R.bind_ok] at h
      exact ⟨v, r', rfl, sr w _ hs _ ds r' Q S (E.set h1) h2 (by cases q : g ds (fs.set i (some d)) hs with
        | ok a h' => rw [q] at h; exact h
        | exc x p h' => exact absurd q (nex _ _ _ _ _ _)
        | bad => rw [q] at h; exact h)⟩
theorem jg_tup {g : List D → Fs → Hs → R Fs} {k : Nat} (hc : X.calm = true) (h : JGs c X W es g) (hn : (assignEach es X.env).length = es.length := by rfl) (hst : (assignEach es X.env).findIdx? (·.1) = none := by rfl) : JG c X W (.Tuple es k pos) (Mm.gTup g) := by
  obtain ⟨tr, pr, len, nex, sr⟩ := h.ex
  refine ⟨_, pg_tup hc pr hn hst, fun w fs hs σ d v Q S E r h => ?_⟩
  cases d <;> first | exact h.elim | skip
  rename_i ds
  unfold Rp at r
  obtain ⟨p, vs, rfl, hq, r2⟩ := r
  have h' : PostG c w (g ds fs hs) (fun fs' _ w' => ∀ σ', RE c w' fs' σ' → Q σ' w'.H) (fun k d H => W k d σ H) := h
  have hl : ds.length = es.length := by
    cases q : g ds fs hs with
    | ok fs' hs' => exact len _ _ _ _ _ q
    | exc x p h2 => exact absurd q (nex _ _ _ _ _ _)
    | bad => rw [q] at h'; exact h'.elim
  exact ⟨p, vs, rfl, SqT.of (S.sub _ _ hq), by rw [r2.length, hl], sr w fs hs σ ds vs Q S E r2 h'⟩
theorem jg_sub {o i : Expr} {mo mi : M} {set : D → D → D → Hs → R Unit} (hs : JSet c X set) (ho : JE c X W o mo) (hi : JE c X W i mi)
    (ha : ∀ v, assign (.Subscript o i pos) X.env v = (do
      let ov ← holding [v] (eval o X.env)
      let iv ← holding [v, ov] (eval i X.env)
      standAt pos
      holding [v, ov, iv] (setItem ov iv v)
      release [v, ov, iv] []) := by intro _; rfl) : JG c X W (.Subscript o i pos) (Mm.gSub set mo mi) := by
  obtain ⟨r, pr, sr⟩ := hs.ex; obtain ⟨to, po, so⟩ := ho.ex; obtain ⟨ti, pi, si⟩ := hi.ex
  refine ⟨_, pg_sub po pi pr ha, fun w fs hs σ d v Q S E rd h => ?_⟩
  refine so w fs hs σ _ S E (h.bind.imp fun x h1 w1 l1 S1 p1 v1 r1 => ?_)
  refine si w1 fs h1 σ _ S1 (E.le l1) (p1.bind.imp fun k h2 w2 l2 S2 p2 v2 r2 => ?_)
  refine sr w2 h2 x k d v1 v2 v _ _ S2 (r1.le l2) r2 ((rd.le l1).le l2) (p2.bind.imp fun u h3 w3 l3 S3 p3 => ?_)
  exact p3.now S3 σ (((E.le l1).le l2).le l3)
theorem jss_nil : JSs c X W [] sNx := ⟨_, pss_nil, fun w fs hs σ De S E h => h w σ (Wd.le.refl w) S E⟩
theorem jss_one (h : JS c X W st m) : JSs c X W [st] m := let ⟨t, p, s⟩ := h.ex; ⟨t, pss_one p, s⟩
theorem PostS.seq {w : Wd} {r : RS} {k : MS} {De : Ends} {t : TS} (h : PostS c w (r.seq k) De W) (s : ∀ (w : Wd) (fs : Fs) (hs : Hs) (σ : L2.St) (De : Ends), SR c w hs → RE c w fs σ → PostS c w (k fs hs) De W → t De σ w.H) : PostS c w r { De with nx := t De } W := by
  cases r with
  | nx fs hs => exact fun w' σ' l S E => s w' fs hs σ' De S E (PostS.mono l h)
  | ret d hs => exact h
  | brk fs hs => exact h
  | cnt fs hs => exact h
  | exc x p fs hs => exact h
  | bad => exact h
theorem jss_cons (h1 : JS c X W st m1) (h2 : JSs c X W sts m2) : JSs c X W (st :: sts) (sSeq m1 m2) := by
  obtain ⟨t1, p1, s1⟩ := h1.ex; obtain ⟨t2, p2, s2⟩ := h2.ex
  exact ⟨_, pss_cons p1 p2, fun w fs hs σ De S E h => s1 w fs hs σ _ S E (PostS.seq h s2)⟩
theorem js_never : JS c X W st sNever := ⟨_, ps_never, fun w fs hs σ De S E h => h.elim⟩
theorem js_set (i : Nat) {x : Str} {pos' : Pos} (hN : X.N.Nodup) (he : JE c X W e ma) (hi : X.N[i]? = some x := by rfl) (hx : Loc X.env.scope x := by first | exact Or.inl rfl | exact Or.inr rfl) (hs : swapsWith e (some (.Name x pos')) pos.line X.env = pure false := by rfl) (hf : X.fn x = true ∨ X.env.scope.names.lookup x = some .local := by first | exact .inl rfl | exact .inr rfl) :
    JS c X W (.Assign [.Name x pos'] e pos) (sAsg ma (Mm.gName i)) := by
  obtain ⟨t, p, s⟩ := he.ex
  refine ⟨_, ps_set hN hi hx p hs hf, fun w fs hs σ De S E h => ?_⟩
  exact s w fs hs σ _ S E ((PostS.bindS h E).imp fun d h1 w1 l1 S1 p1 v1 r1 => p1 w1 _ (Wd.le.refl w1) S1 ((E.le l1).set r1))
theorem js_asg {tg : Expr} {g : MG} (he : JE c X W e ma) (hg : JG c X W tg g) (hs : swapsWithSole [tg] e pos.line X.env = pure false := by rfl) (hw : swappedStores [tg] e X.env = pure none := by rfl)
    (h1 : (assignEach [tg] X.env).map (·.2) = [assign tg X.env] := by rfl) : JS c X W (.Assign [tg] e pos) (sAsg ma g) := by
  obtain ⟨t, p, s⟩ := he.ex; obtain ⟨tg', pg, sg⟩ := hg.ex
  refine ⟨_, ps_asg p pg hs hw h1, fun w fs hs σ De S E h => ?_⟩
  refine s w fs hs σ _ S E ((PostS.bindS h E).imp fun d h1 w1 l1 S1 p1 v1 r1 => ?_)
  exact sg w1 fs h1 σ d v1 _ S1 (E.le l1) r1 ((PostS.bindS p1 (E.le l1)).imp fun fs' h2 w2 l2 S2 p2 σ' E2 => p2 w2 σ' (Wd.le.refl w2) S2 E2)
theorem js_expr (he : JE c X W e ma) (hs : swapsWith e none pos.line X.env = pure false := by rfl) : JS c X W (.Expr e pos) (sExpr ma) := by
  obtain ⟨t, p, s⟩ := he.ex
  refine ⟨_, ps_expr p hs, fun w fs hs σ De S E h => ?_⟩
  exact s w fs hs σ _ S E ((PostS.bindS h E).imp fun d h1 w1 l1 S1 p1 v1 r1 => p1 w1 σ (Wd.le.refl w1) S1 (E.le l1))
theorem js_ret (he : JE c X W e ma) : JS c X W (.Return (some e) pos) (sRet ma) := by
  obtain ⟨t, p, s⟩ := he.ex
  refine ⟨_, ps_ret p, fun w fs hs σ De S E h => ?_⟩
  exact s w fs hs σ _ S E ((PostS.bindS h E).imp fun d h1 w1 l1 S1 p1 v1 r1 => p1 w1 v1 (Wd.le.refl w1) S1 r1)
theorem js_if {t : Expr} {mt : MT} {ba bb : List Stmt} (ht : JT c X W t mt) (ha : JSs c X W ba m1) (hb : JSs c X W bb m2) : JS c X W (.If t ba bb pos) (sIf mt m1 m2) := by
  obtain ⟨tt, pt, stt⟩ := ht.ex; obtain ⟨t1, p1, s1⟩ := ha.ex; obtain ⟨t2, p2, s2⟩ := hb.ex
  refine ⟨_, ps_if pt p1 p2, fun w fs hs σ De S E h => ?_⟩
  refine stt w fs hs σ _ S E ((PostS.bindS h E).imp fun k h1 w1 l1 S1 q => ?_)
  cases k with
  | true => exact s1 w1 fs h1 σ De S1 (E.le l1) q
  | false => exact s2 w1 fs h1 σ De S1 (E.le l1) q
/-- a, b = x, y with local names -/
theorem js_par (i j : Nat) {x y : Str} {px py pt : Pos} {kt k2 : Nat} {pt2 : Pos} (hc : X.calm = true) (hN : X.N.Nodup) (hij : i ≠ j) (ha : JE c X W a ma) (hb : JE c X W b mb)
    (hw : swappedStores [.Tuple [.Name x px, .Name y py] kt pt] (.Tuple [a, b] k2 pt2) X.env = pure (some [x, y])) (hi : X.N[i]? = some x := by rfl) (hj : X.N[j]? = some y := by rfl)
    (hx : X.env.scope.names.lookup x = some .local := by rfl) (hy : X.env.scope.names.lookup y = some .local := by rfl)
    (hs : swapsWithSole [.Tuple [.Name x px, .Name y py] kt pt] (.Tuple [a, b] k2 pt2) pos.line X.env = pure false := by rfl)
    (h1 : starEach [a, b] X.env = (false, eval a X.env) :: starEach [b] X.env := by rfl) (h2 : starEach [b] X.env = (false, eval b X.env) :: starEach [] X.env := by rfl) :
    JS c X W (.Assign [.Tuple [.Name x px, .Name y py] kt pt] (.Tuple [a, b] k2 pt2) pos) (sPar i j ma mb) := by
  obtain ⟨ta, pa, sa⟩ := ha.ex; obtain ⟨tb, pb, sb⟩ := hb.ex
  refine ⟨_, ps_par hc hN hi hj hij hx hy (pa_cons pa (pa_cons pb pa_nil h2) h1) hw hs, fun w fs hs σ De S E h => ?_⟩
  refine sa w fs hs σ _ S E ((PostS.bindS h E).imp fun d h1 w1 l1 S1 p1 v1 r1 => ?_)
  refine sb w1 fs h1 σ _ S1 (E.le l1) ((PostS.bindS p1 (E.le l1)).imp fun d2 h2 w2 l2 S2 p2 v2 r2 => ?_)
  exact ⟨v1, v2, rfl, p2 w2 _ (Wd.le.refl w2) S2 ((((E.le l1).le l2).set (r1.le l2)).set r2)⟩
theorem js_for {tg iter : Expr} {body : List Stmt} {src : MI} {g : MG} (hp : PassesOwn (model X.prog X.w) X.A X.env X.xe) (hc : X.calm = true) (hi : JI c X W tg iter src) (hg : JG c X W tg g) (hb : JSs c X W body m)
    (hs : ∀ x, foldedSetIterable iter X.env x = pure x := by intro _; rfl) : JS c X W (.For tg iter body [] pos) (sFor src g m) := by
  obtain ⟨wi, pi, si⟩ := hi.ex; obtain ⟨tg', pg, sg⟩ := hg.ex; obtain ⟨tb, pb, sb⟩ := hb.ex
  refine ⟨_, ps_for hp hc pi pg pb hs, fun w fs hs σ De S E h => ?_⟩
  refine si w fs hs σ _ S E ((PostS.bindS h E).imp fun p h1 w1 l1 S1 p1 J sJ => ?_)
  obtain ⟨ds, k⟩ := p
  refine ⟨fun i mm σ' H => ∃ w' fs' hs', w1.le w' ∧ w'.H = H ∧ SR c w' hs' ∧ RE c w' fs' σ' ∧ i ≤ ds.length ∧ mm = ds.length - i ∧ PostS c w' (forL k g m (ds.drop i) fs' hs') De W, ⟨_, w1, fs, h1, Wd.le.refl w1, rfl, S1, E.le l1, Nat.zero_le _, rfl, p1⟩, ?_⟩
  rintro i mm σ' H ⟨w', fs', hs', lw, rfl, S', E', hi, rfl, q⟩
  by_cases hil : i < ds.length
  · have ed : ds.drop i = ds[i] :: ds.drop (i + 1) := List.drop_eq_getElem_cons hil
    rw [ed] at q
    unfold forL at q
    split at q
    · rename_i hst
      obtain ⟨hgo, hy⟩ := sJ.go i ds[i] w' hs' lw S' hst (List.getElem?_eq_getElem hil)
      refine .inr ⟨hgo, fun σ2 H2 => ∃ w2 fs2 hs2, w1.le w2 ∧ w2.H = H2 ∧ SR c w2 hs2 ∧ RE c w2 fs2 σ2 ∧ i + 1 ≤ ds.length ∧ PostS c w2 (forL k g m (ds.drop (i + 1)) fs2 hs2) De W, fun σ2 H2 ⟨w2, fs2, hs2, z1, z2, z3, z4, z5, z6⟩ => ⟨ds.length - (i + 1), by omega, w2, fs2, hs2, z1, z2, z3, z4, z5, rfl, z6⟩, fun x H' hx => ?_⟩
      obtain ⟨w2, l2, rfl, S2, r2⟩ := hy x H' hx
      refine sg w2 fs' hs' σ' ds[i] x _ S2 (E'.le l2) r2 ((PostS.bindS (PostS.mono l2 q) (E'.le l2)).imp fun fs3 h3 w3 l3 S3 p3 σ3 E3 => ?_)
      refine sb w3 fs3 h3 σ3 _ S3 E3 ?_
      have lw3 : w1.le w3 := (lw.trans l2).trans l3
      cases qb : m fs3 h3 with
      | nx fs4 h4 =>
        rw [qb] at p3
        exact fun w4 σ4 l4 S4 E4 => ⟨w4, fs4, h4, lw3.trans l4, rfl, S4, E4, hil, PostS.mono l4 p3⟩
      | cnt fs4 h4 =>
        rw [qb] at p3
        exact fun w4 σ4 l4 S4 E4 => ⟨w4, fs4, h4, lw3.trans l4, rfl, S4, E4, hil, PostS.mono l4 p3⟩
      | brk fs4 h4 =>
        rw [qb] at p3
        exact p3
      | ret d h4 =>
        rw [qb] at p3
        exact p3
      | exc x p fs4 h4 =>
        rw [qb] at p3
        exact p3
      | bad =>
        rw [qb] at p3
        exact p3.elim
    · exact q.elim
  · have e0 : i = ds.length := by omega
    subst e0
    rw [List.drop_length] at q
    unfold forL at q
    split at q
    · rename_i hst
      exact .inl ⟨sJ.stop w' hs' lw S' hst, q w' σ' (Wd.le.refl w') S' E'⟩
    · exact q.elim
theorem js_while {t : Expr} {body : List Stmt} {mt : MT} (n : Nat) (hp : PassesOwn (model X.prog X.w) X.A X.env X.xe) (ht : JT c X W t mt) (hb : JSs c X W body m) : JS c X W (.While t body [] pos) (sWhile n mt m) := by
  obtain ⟨tt, pt, stt⟩ := ht.ex; obtain ⟨tb, pb, sb⟩ := hb.ex
  refine ⟨_, ps_while hp pt pb, fun w fs hs σ De S E h => ?_⟩
  refine ⟨fun mm σ' H => ∃ w' fs' hs', w'.H = H ∧ SR c w' hs' ∧ RE c w' fs' σ' ∧ PostS c w' (whileN mt m mm fs' hs') De W, ⟨n, w, fs, hs, rfl, S, E, h⟩, ?_⟩
  rintro mm σ' H ⟨w', fs', hs', rfl, S', E', q⟩
  cases mm with
  | zero => exact q.elim
  | succ mm =>
    unfold whileN at q
    refine stt w' fs' hs' σ' _ S' E' ((PostS.bindS q E').imp fun k h1 w1 l1 S1 p1 => ?_)
    cases k with
    | false => exact p1 w1 σ' (Wd.le.refl w1) S1 (E'.le l1)
    | true =>
      refine ⟨fun σ2 H2 => ∃ w2 fs2 hs2, w2.H = H2 ∧ SR c w2 hs2 ∧ RE c w2 fs2 σ2 ∧ PostS c w2 (whileN mt m mm fs2 hs2) De W, fun σ2 H2 ⟨w2, fs2, hs2, z1, z2, z3, z4⟩ => ⟨mm, by omega, w2, fs2, hs2, z1, z2, z3, z4⟩, ?_⟩
      refine sb w1 fs' h1 σ' _ S1 (E'.le l1) ?_
      have p2 : PostS c w1 (match m fs' h1 with
        | .nx fs2 h2 => whileN mt m mm fs2 h2
        | .cnt fs2 h2 => whileN mt m mm fs2 h2
        | .brk fs2 h2 => .nx fs2 h2
        | z => z) De W := p1
      cases qb : m fs' h1 with
      | nx fs4 h4 =>
        rw [qb] at p2
        exact fun w4 σ4 l4 S4 E4 => ⟨w4, fs4, h4, rfl, S4, E4, PostS.mono l4 p2⟩
      | cnt fs4 h4 =>
        rw [qb] at p2
        exact fun w4 σ4 l4 S4 E4 => ⟨w4, fs4, h4, rfl, S4, E4, PostS.mono l4 p2⟩
      | brk fs4 h4 =>
        rw [qb] at p2
        exact p2
      | ret d h4 =>
        rw [qb] at p2
        exact p2
      | exc x p fs4 h4 =>
        rw [qb] at p2
        exact p2
      | bad =>
        rw [qb] at p2
        exact p2.elim
theorem seqL_src {w : Wd} {ds : List D} {p : Addr} {vs : List V} (hq : SqL c.K w.F p vs) (r : Rps c w.ρ w.F ds vs) (hK : X.K = c.K) : SrcOk c (Itl X.K p) w ds none := by
  refine ⟨fun i d w' hs' l S' _ e => ?_, fun w' hs' l S' _ => ?_⟩
  · obtain ⟨v, e2, r2⟩ := r.get e
    have hq' : SqL X.K w'.H p vs := by rw [hK]; exact sql_sub S'.sub (sql_sub l.sub hq)
    refine ⟨⟨vs, v, hq', e2⟩, fun x H' hy => ?_⟩
    obtain ⟨rfl, hx⟩ := hy
    have e3 := hx vs hq'
    rw [e2] at e3
    cases e3
    exact ⟨w', Wd.le.refl w', rfl, S', r2.le l⟩
  · exact ⟨vs, by rw [hK]; exact sql_sub S'.sub (sql_sub l.sub hq), Nat.le_of_eq r.length⟩
theorem seqT_src {w : Wd} {ds : List D} {p : Addr} {vs : List V} (hq : SqT c.K w.F p vs) (r : Rps c w.ρ w.F ds vs) (hK : X.K = c.K) : SrcOk c (Itt X.K p) w ds none := by
  refine ⟨fun i d w' hs' l S' _ e => ?_, fun w' hs' l S' _ => ?_⟩
  · obtain ⟨v, e2, r2⟩ := r.get e
    have hq' : SqT X.K w'.H p vs := by rw [hK]; exact sqt_sub S'.sub (sqt_sub l.sub hq)
    refine ⟨⟨vs, v, hq', e2⟩, fun x H' hy => ?_⟩
    obtain ⟨rfl, hx⟩ := hy
    have e3 := hx vs hq'
    rw [e2] at e3
    cases e3
    exact ⟨w', Wd.le.refl w', rfl, S', r2.le l⟩
  · exact ⟨vs, by rw [hK]; exact sqt_sub S'.sub (sqt_sub l.sub hq), Nat.le_of_eq r.length⟩
/-- a tracked list, as it stands -/
theorem loc_at {w : Wd} {hs : Hs} {n : Nat} {o : O} {p : Addr} (S : SR c w hs) (hp : w.ρ[n]? = some p) (h : hs[n]? = some o) : ∃ ho, w.H p = some ho ∧ RO c w.ρ w.F o ho := S.ob n p o hp h
theorem rho_le {w w' : Wd} {n : Nat} {p : Addr} (l : w.le w') (hp : w.ρ[n]? = some p) : w'.ρ[n]? = some p := by
  obtain ⟨s, e⟩ := l.rho
  rw [e, List.getElem?_append_left (List.getElem?_eq_some_iff.mp hp).1]
  exact hp
theorem loc_src {w : Wd} {ds : List D} {n : Nat} {p : Addr} (hp : w.ρ[n]? = some p) : SrcOk c (Itl X.K p) w ds (some (n, ds)) := by
  refine ⟨fun i d w' hs' l S' st e => ?_, fun w' hs' l S' st => ?_⟩
  · obtain ⟨ho, e1, vs, rfl, r⟩ := loc_at S' (rho_le l hp) st
    obtain ⟨v, e2, r2⟩ := r.get e
    refine ⟨⟨vs, v, SqL.of e1, e2⟩, fun x H' hy => ?_⟩
    obtain ⟨rfl, hx⟩ := hy
    have e3 := hx vs (SqL.of e1)
    rw [e2] at e3
    cases e3
    exact ⟨w', Wd.le.refl w', rfl, S', r2⟩
  · obtain ⟨ho, e1, vs, rfl, r⟩ := loc_at S' (rho_le l hp) st
    exact ⟨vs, SqL.of e1, Nat.le_of_eq r.length⟩
variable {tg : Expr}
theorem rng_get {lo : Int} {n i : Nat} {d : D} (h : (rng lo n)[i]? = some d) : i < n ∧ d = .int (lo + i) := by
  unfold rng at h
  rw [List.getElem?_map] at h
  cases q : (List.range n)[i]? with
  | none => rw [q] at h; cases h
  | some k =>
    rw [q] at h
    obtain ⟨h1, h2⟩ := List.getElem?_eq_some_iff.mp q
    simp at h1 h2 h
    subst h2
    exact ⟨h1, h.symm⟩
theorem rng_len (lo : Int) (n : Nat) : (rng lo n).length = n := by unfold rng; simp
theorem rng_src {w : Wd} {lo : Int} {n : Nat} : SrcOk c (Itr lo n) w (rng lo n) none := by
  refine ⟨fun i d w' hs' l S' _ e => ?_, fun w' hs' l S' _ => ?_⟩
  · obtain ⟨h1, rfl⟩ := rng_get e
    refine ⟨h1, fun x H' hy => ?_⟩
    obtain ⟨rfl, rfl⟩ := hy
    exact ⟨w', Wd.le.refl w', rfl, S', rfl⟩
  · show n ≤ (rng lo n).length
    rw [rng_len]
    exact Nat.le_refl _
theorem ji_rng1 {p : Pos} (hg : Gl X "range") (hm : X.mg "range" = none) (ha : JA c X W [a] mas) (hs : starEach [a] X.env = [(false, eval a X.env)] := by rfl) : JI c X W tg (.Call (.Name "range" p) [a] [] pos) (Mm.iRng1 mas) := by
  obtain ⟨t, pa, s⟩ := ha.ex
  refine ⟨_, pi_range1 hg hm pa hs, fun w fs hs σ Rr S E h => ?_⟩
  refine s w fs hs σ _ S E (h.bind.imp fun ds h1 w1 l1 S1 p1 vs rs => ?_)
  cases e : int1 ds with
  | none => simp only [e] at p1; exact p1.elim
  | some j =>
    simp only [e] at p1
    obtain rfl := int1_some e
    split at p1
    · rename_i hj
      unfold lim at hj
      unfold Rps at rs
      obtain ⟨v, r, rfl, h1, h2⟩ := rs
      unfold Rps at h2
      subst h2
      obtain rfl : v = .int j := h1
      exact ⟨j, rfl, by omega, by omega, p1.now S1 _ rng_src⟩
    · exact p1.elim
theorem ji_rng2 {p : Pos} (hg : Gl X "range") (hm : X.mg "range" = none) (ha : JA c X W [a, b] mas) (hs : starEach [a, b] X.env = [(false, eval a X.env), (false, eval b X.env)] := by rfl) (hs2 : starEach [b] X.env = [(false, eval b X.env)] := by rfl) :
    JI c X W tg (.Call (.Name "range" p) [a, b] [] pos) (Mm.iRng2 mas) := by
  obtain ⟨t, pa, s⟩ := ha.ex
  refine ⟨_, pi_range2 hg hm pa hs hs2, fun w fs hs σ Rr S E h => ?_⟩
  refine s w fs hs σ _ S E (h.bind.imp fun ds h1 w1 l1 S1 p1 vs rs => ?_)
  cases e : int2 ds with
  | none => simp only [e] at p1; exact p1.elim
  | some q =>
    simp only [e] at p1
    obtain rfl := int2_some e
    split at p1
    · rename_i hj
      unfold lim at hj
      unfold Rps at rs
      obtain ⟨v, r, rfl, h1, h2⟩ := rs
      unfold Rps at h2
      obtain ⟨v2, r2, rfl, h3, h4⟩ := h2
      unfold Rps at h4
      subst h4
      obtain rfl : v = .int q.1 := h1
      obtain rfl : v2 = .int q.2 := h3
      exact ⟨q.1, q.2, rfl, ⟨by omega, by omega, by omega, by omega⟩, p1.now S1 _ rng_src⟩
    · exact p1.elim
theorem enum_get {ds : List D} {i : Nat} {d : D} (h : (enumD ds)[i]? = some d) : ∃ x, ds[i]? = some x ∧ d = .t [.int (i : Nat), x] := by
  unfold enumD at h
  rw [List.getElem?_zipWith] at h
  cases q : (List.range ds.length)[i]? with
  | none => rw [q] at h; simp at h
  | some k =>
    rw [q] at h
    cases z : ds[i]? with
    | none => rw [z] at h; simp at h
    | some x =>
      rw [z] at h
      obtain ⟨h1, h2⟩ := List.getElem?_eq_some_iff.mp q
      simp at h2
      subst h2
      simp at h
      exact ⟨x, rfl, h.symm⟩
theorem enum_len (ds : List D) : (enumD ds).length = ds.length := by unfold enumD; simp
end
end Mm
namespace Mm
open PySem PySem.Spec PyProof.Rows L2
/-- nothing leaves a comprehension's block -/
abbrev W0 : WX := fun _ _ _ _ => False
structure JTs (c : Ct) (X : Cx) (W : WX) (es : List Expr) (m : MT) : Prop where
  ex : ∃ te : TT, PTs X es te ∧ ∀ (w : Wd) (fs : Fs) (hs : Hs) (σ : L2.St) (Q : Bool → Hp → Prop), SR c w hs → RE c w fs σ → PostG c w (m fs hs) (fun b _ w' => Q b w'.H) (fun k d H => W k d σ H) → te σ w.H Q
theorem wipe_get (σ : L2.St) : ∀ (vs : List Nat) (j : Nat), (L2.wipe σ vs)[j]? = if j ∈ vs ∧ j < σ.length then some none else σ[j]?
  | [], j => by simp [L2.wipe]
  | v :: vs, j => by
    unfold L2.wipe
    have ih := wipe_get σ vs j
    by_cases hj : j = v
    · subst hj
      by_cases hl : j < σ.length
      · rw [List.getElem?_set_self (by rw [L2.wipe_length]; exact hl)]
        simp [hl]
      · rw [List.getElem?_eq_none (by rw [List.length_set, L2.wipe_length]; omega)]
        simp [hl, List.getElem?_eq_none (Nat.le_of_not_lt hl)]
    · rw [List.getElem?_set_ne (Ne.symm hj), ih]
      simp [hj]
theorem wipe_set {σ : L2.St} {own : List Nat} {i : Nat} {x : Option V} (h : i ∈ own) : L2.wipe (σ.set i x) own = L2.wipe σ own := by
  apply List.ext_getElem?
  intro j
  rw [wipe_get, wipe_get, List.length_set]
  by_cases hj : j = i
  · subst hj
    by_cases hl : j < σ.length
    · simp [h, hl]
    · simp [hl, List.getElem?_eq_none (Nat.le_of_not_lt hl)]
  · rw [List.getElem?_set_ne (Ne.symm hj)]
section
variable {c : Ct} {X : Cx} {W : WX} {a b e : Expr} {es : List Expr} {ma mb mc : M} {mas : MA} {pos : Pos}
theorem jts_nil : JTs c X W [] tYes := ⟨_, pts_nil, fun w fs hs σ Q S E h => h.now S⟩
theorem jts_one {m : MT} (h : JT c X W e m) : JTs c X W [e] m := let ⟨t, p, s⟩ := h.ex; ⟨_, pts_one p, s⟩
def tM (c : Ct) (W : WX) (m : M) : TE := fun σ H Q => ∃ w fs hs, w.H = H ∧ SR c w hs ∧ RE c w fs σ ∧ Post c w (m fs hs) Q (fun k d H => W k d σ H)
theorem JE.pe {m : M} (h : JE c X W e m) : PE X e (tM c W m) := by
  obtain ⟨te, p, s⟩ := h.ex
  refine ⟨fun pins st σ H Q I q => ?_⟩
  obtain ⟨w, fs, hs, rfl, S, E, q⟩ := q
  exact p.run pins st σ w.H Q I (s w fs hs σ Q S E q)
def tMs (c : Ct) (W : WX) (m : MT) : TT := fun σ H Q => ∃ w fs hs, w.H = H ∧ SR c w hs ∧ RE c w fs σ ∧ PostG c w (m fs hs) (fun b _ w' => Q b w'.H) (fun k d H => W k d σ H)
theorem JTs.pts {m : MT} (h : JTs c X W es m) : PTs X es (tMs c W m) := by
  obtain ⟨te, p, s⟩ := h.ex
  refine ⟨fun pins st σ H Q I q => ?_⟩
  obtain ⟨w, fs, hs, rfl, S, E, q⟩ := q
  exact p.run pins st σ w.H Q I (s w fs hs σ Q S E q)
/-- targets that store into the own slots alone -/
def gMo (c : Ct) (own : List Nat) (m : MG) : TG := fun v σ H Q => ∃ w fs hs d, w.H = H ∧ SR c w hs ∧ RE c w fs σ ∧ Rp c w.ρ w.F d v ∧ PostG c w (m d fs hs) (fun fs' _ w' => ∀ σ', RE c w' fs' σ' → L2.wipe σ' own = L2.wipe σ own → Q σ' w'.H) (fun _ _ _ => False)
structure JGo (c : Ct) (X : Cx) (own : List Nat) (e : Expr) (m : MG) : Prop where
  pg : PG X e (gMo c own m)
theorem PG.weak {t t' : TG} (p : PG X e t) (h : ∀ v σ H Q, t' v σ H Q → t v σ H Q) : PG X e t' := ⟨fun pins s σ H v u Q I r q => p.run pins s σ H v u Q I r (h _ _ _ _ q)⟩
theorem jgo_name {own : List Nat} (i : Nat) {x : Str} (hN : X.N.Nodup) (ho : i ∈ own) (hi : X.N[i]? = some x := by rfl) (hx : Loc X.env.scope x := by first | exact Or.inl rfl | exact Or.inr rfl) (hf : X.fn x = true ∨ X.env.scope.names.lookup x = some .local := by first | exact .inl rfl | exact .inr rfl) : JGo c X own (.Name x pos) (Mm.gName i) := by
  refine ⟨PG.weak (pg_name hN hi hx hf) fun v σ H Q h => ?_⟩
  obtain ⟨w, fs, hs, d, rfl, S, E, r, q⟩ := h
  exact q.now S _ (E.set r) (wipe_set ho)
/-- an address that is neither tracked nor frozen stays so -/
theorem le_out {w w' : Wd} {A : Addr} {o : HO} (l : w.le w') (e : w.H A = some o) (n : A ∉ w.ρ) (f : w.F A = none) : w'.H A = some o ∧ A ∉ w'.ρ ∧ w'.F A = none := by
  refine ⟨l.keep A o e n, fun hm => ?_, ?_⟩
  · obtain ⟨s, es, ns⟩ := l.pre
    rw [es] at hm
    rcases List.mem_append.mp hm with z | z
    · exact n z
    · rw [ns A z] at e; cases e
  · cases q : w'.F A with
    | none => rfl
    | some u =>
      rcases l.newF A u q with z | z | z
      · rw [f] at z; cases z
      · rw [e] at z; cases z
      · exact absurd z n
/-- it may be written -/
theorem SR.out {w : Wd} {hs : Hs} {A : Addr} {o o' : HO} (S : SR c w hs) (e : w.H A = some o) (n : A ∉ w.ρ) (f : w.F A = none) : SR c ⟨w.ρ, w.F, upd w.H A o'⟩ hs :=
  ⟨fun a u q => by show upd w.H A o' a = some u; rw [upd_ne (ne_of_none q f)]; exact S.sub a u q, S.len, S.nd, S.fr, fun i a u q1 q2 => by
    obtain ⟨ho, z1, z2⟩ := S.ob i a u q1 q2
    refine ⟨ho, ?_, z2⟩
    show upd w.H A o' a = some ho
    have : a ≠ A := fun z => n (z ▸ List.mem_of_getElem? q1)
    rw [upd_ne this]; exact z1⟩
/-- two worlds that differ at A alone -/
theorem le_swap {w w' : Wd} {A : Addr} {o : HO} (l : w.le w') (hA : w.H A = none) (e : w'.H A = some o) (n : A ∉ w'.ρ) (o' : HO) : w.le ⟨w'.ρ, w'.F, upd w'.H A o'⟩ := by
  refine ⟨l.pre, l.sub, fun a u q hx => ?_, fun a u q => ?_, l.newF⟩
  · show upd w'.H A o' a = some u
    rw [upd_ne (ne_of_none q hA)]; exact l.keep a u q hx
  · obtain ⟨z, e2⟩ := l.there a u q
    exact ⟨z, by show upd w'.H A o' a = some z; rw [upd_ne (ne_of_none q hA)]; exact e2⟩
/-- it may be frozen -/
theorem SR.outF {w w1 : Wd} {hs : Hs} {A : Addr} {o : HO} (S : SR c w hs) (l : w1.le w) (h1 : w1.H A = none) (e : w.H A = some o) (n : A ∉ w.ρ) (f : w.F A = none) : w1.le ⟨w.ρ, upd w.F A o, w.H⟩ ∧ SR c ⟨w.ρ, upd w.F A o, w.H⟩ hs := by
  have e1 : ∀ x u, w.F x = some u → upd w.F A o x = some u := fun x u q => by rw [upd_ne (ne_of_none q f)]; exact q
  refine ⟨⟨l.pre, fun x u q => e1 x u (l.sub x u q), l.keep, l.there, fun x u q => ?_⟩, ⟨fun x u q => ?_, S.len, S.nd, fun i x u q1 q2 d => ?_, fun i x u q1 q2 => ?_⟩⟩
  · have q' : upd w.F A o x = some u := q
    by_cases z : x = A
    · subst z; exact .inr (.inl h1)
    · rw [upd_ne z] at q'; exact l.newF x u q'
  · have q' : upd w.F A o x = some u := q
    by_cases z : x = A
    · subst z; rw [upd_same] at q'; cases q'; exact e
    · rw [upd_ne z] at q'; exact S.sub x u q'
  · show upd w.F A o x = none
    rw [upd_ne (fun z : x = A => n (by rw [← z]; exact List.mem_of_getElem? q1))]
    exact S.fr i x u q1 q2 d
  · obtain ⟨ho, z1, z2⟩ := S.ob i x u q1 q2
    exact ⟨ho, z1, z2.mono ⟨[], by simp⟩ e1⟩
theorem lc_sound {own : List Nat} {g : MG} {mt : MT} {me : M} {J : It} {k : Option (Nat × List D)} {ds : List D} {w1 : Wd} {h1 : Hs} {fs : Fs} {σ : L2.St} {Q : VK} {E : XK}
    (sJ : SrcOk c J w1 ds k) (S1 : SR c w1 h1) (E1 : RE c w1 fs σ)
    (h : PostG c w1 ((lcL k g mt me (wipe fs own) ds [] h1).bind fun ys h2 => .ok (D.l ys) h2) (fun d _ w' => ∀ v, Rp c w'.ρ w'.F d v → Q v w'.H) E)
    (A : Addr) (hA : w1.H A = none) : ∃ Wi : Nat → Nat → Hp → Prop, (∃ m, Wi 0 m (upd w1.H A (.lst []))) ∧ ∀ i m H, Wi i m H →
      (J.stop i H ∧ Q (.ref A) H) ∨ (J.go i H ∧ ∃ Nx : Hp → Prop, (∀ H', Nx H' → ∃ m', m' < m ∧ Wi (i + 1) m' H') ∧ ∀ x H', J.yld i H x H' → gMo c own g x (L2.wipe σ own) H' fun σ2 H2 => L2.wipe σ2 own = L2.wipe σ own ∧ tMs c W0 mt σ2 H2 fun b H3 =>
        if b = true then tM c W0 me σ2 H3 fun y H4 => ∃ acc, H4 A = some (.lst acc) ∧ acc.length < sizeLine ∧ Nx (upd H4 A (.lst (acc ++ [y]))) else Nx H3) := by
  obtain ⟨l0, S0⟩ := S1.heap (H' := upd w1.H A (.lst [])) fun a o q => by rw [upd_ne (ne_of_none q hA)]; exact q
  let Inv (i : Nat) (H : Hp) (w : Wd) (acc : List D) (hs : Hs) : Prop := w1.le w ∧ w.H = H ∧ SR c w hs ∧ (∃ vs, w.H A = some (.lst vs) ∧ Rps c w.ρ w.F acc vs) ∧ A ∉ w.ρ ∧ w.F A = none ∧ i ≤ ds.length ∧
    PostG c w1 ((lcL k g mt me (wipe fs own) (ds.drop i) acc hs).bind fun ys h2 => .ok (D.l ys) h2) (fun d _ w' => ∀ v, Rp c w'.ρ w'.F d v → Q v w'.H) E
  refine ⟨fun i m H => m = ds.length - i ∧ ∃ w acc hs, Inv i H w acc hs, ⟨_, rfl, _, [], h1, l0, rfl, S0, ⟨[], upd_same, Rps.nil⟩, S1.new hA, S1.newF hA, Nat.zero_le _, h⟩, ?_⟩
  rintro i m H ⟨rfl, w, acc, hs, lw, rfl, S, ⟨vs, eA, rA⟩, nA, nF, hi, q⟩
  by_cases hil : i < ds.length
  · have ed : ds.drop i = ds[i] :: ds.drop (i + 1) := List.drop_eq_getElem_cons hil
    rw [ed] at q
    unfold lcL at q
    by_cases hst : stands k hs
    · rw [if_pos hst] at q
      obtain ⟨hgo, hy⟩ := sJ.go i ds[i] w hs lw S hst (List.getElem?_eq_getElem hil)
      refine .inr ⟨hgo, fun H' => ∃ w' acc' hs', Inv (i + 1) H' w' acc' hs', fun H' z => ⟨ds.length - (i + 1), by omega, rfl, z⟩, fun x H' hx => ?_⟩
      obtain ⟨w2, l2, rfl, S2, r2⟩ := hy x H' hx
      have E2 : RE c w2 (wipe fs own) (L2.wipe σ own) := ((E1.le lw).le l2).wipe own
      refine ⟨w2, wipe fs own, hs, ds[i], rfl, S2, E2, r2, ?_⟩
      cases zg : g ds[i] (wipe fs own) hs with
      | exc x p h3 => rw [zg] at q; exact q.elim
      | bad => rw [zg] at q; exact q.elim
      | ok fs' h3 =>
        rw [zg] at q
        simp only [R.bindN_ok] at q
        refine fun w3 l3 S3 σ' E3 hw => ⟨?_, w3, fs', h3, rfl, S3, E3, ?_⟩
        · rw [hw]
          apply List.ext_getElem?
          intro j
          rw [wipe_get, wipe_get, L2.wipe_length]
          by_cases hj : j ∈ own ∧ j < σ.length
          · simp [hj]
          · simp [hj]
        · cases zt : mt fs' h3 with
          | exc x p h4 => rw [zt] at q; exact q.elim
          | bad => rw [zt] at q; exact q.elim
          | ok b h4 =>
            rw [zt] at q
            simp only [R.bindN_ok] at q
            refine fun w4 l4 S4 => ?_
            have l24 : w.le w4 := (l2.trans l3).trans l4
            obtain ⟨eA4, nA4, nF4⟩ := le_out l24 eA nA nF
            cases b with
            | false => exact ⟨w4, acc, h4, lw.trans l24, rfl, S4, ⟨vs, eA4, rA.le l24⟩, nA4, nF4, hil, q⟩
            | true =>
              simp only [if_true] at q ⊢
              refine ⟨w4, fs', h4, rfl, S4, E3.le l4, ?_⟩
              cases ze : me fs' h4 with
              | exc x p h5 => rw [ze] at q; exact q.elim
              | bad => rw [ze] at q; exact q.elim
              | ok y h5 =>
                rw [ze] at q
                simp only [R.bindN_ok] at q
                refine fun w5 l5 S5 v5 r5 => ?_
                have l25 : w.le w5 := l24.trans l5
                obtain ⟨eA5, nA5, nF5⟩ := le_out l25 eA nA nF
                by_cases hz : acc.length < 100000
                · rw [if_pos hz] at q
                  exact ⟨vs, eA5, by rw [rA.length]; exact sz_lt hz, ⟨w5.ρ, w5.F, upd w5.H A (.lst (vs ++ [v5]))⟩, acc ++ [y], h5, le_swap (lw.trans l25) hA eA5 nA5 _, rfl, S5.out eA5 nA5 nF5, ⟨_, upd_same, ((rA.le l25).append (Rps.one r5))⟩, nA5, nF5, hil, q⟩
                · rw [if_neg hz] at q
                  exact q.elim
    · rw [if_neg hst] at q
      exact q.elim
  · have e0 : i = ds.length := by omega
    subst e0
    rw [List.drop_length] at q
    unfold lcL at q
    by_cases hst : stands k hs
    · rw [if_pos hst] at q
      refine .inl ⟨sJ.stop w hs lw S hst, ?_⟩
      obtain ⟨l, S'⟩ := S.outF lw hA eA nA nF
      exact q _ l S' (.ref A) (rp_l (rA.mono ⟨[], by simp⟩ fun x u q => by show upd w.F A _ x = some u; rw [upd_ne (ne_of_none q nF)]; exact q) upd_same)
    · rw [if_neg hst] at q
      exact q.elim
variable {elt tg iter : Expr} {ifs : List Expr} {scope : Scope} {own : List (Str × Nat)} {src : MI} {g : MG} {mt : MT}
theorem je_lc (hc : X.calm = true) (hN : X.N.Nodup) (hi : JI c X W tg iter src) (ok : BlkOk X.N X.env.scope scope own)
    (hg : ∀ (s : Shared) (H : Hp) (C : Addr) (cl : List (Str × Addr)) (fp : List Addr), JGo c (X.blk s H scope (compEnvC scope cl C X.env) fp) (own.map (·.2)) tg g)
    (ht : ∀ (s : Shared) (H : Hp) (C : Addr) (cl : List (Str × Addr)) (fp : List Addr), JTs c (X.blk s H scope (compEnvC scope cl C X.env) fp) W0 ifs mt)
    (he : ∀ (s : Shared) (H : Hp) (C : Addr) (cl : List (Str × Addr)) (fp : List Addr), JE c (X.blk s H scope (compEnvC scope cl C X.env) fp) W0 elt ma) (hs : ∀ x, foldedSetIterable iter X.env x = pure x := by intro _; rfl) :
    JE c X W (.ListComp elt [⟨tg, iter, ifs, 0⟩] scope pos) (eLc (own.map (·.2)) src g mt ma) := by
  obtain ⟨wi, pi, si⟩ := hi.ex
  refine ⟨_, pe_lc hc hN pi ok (fun s H C cl fp => (hg s H C cl fp).pg) (fun s H C cl fp => (ht s H C cl fp).pts) (fun s H C cl fp => (he s H C cl fp).pe) hs, fun w fs hs σ Q S E h => ?_⟩
  refine si w fs hs σ _ S E (h.bind.imp fun p h1 w1 l1 S1 p1 J sJ => fun A hA => ?_)
  exact lc_sound sJ S1 (E.le l1) p1 A hA
/-- y = [..] -/
theorem js_setLc (i : Nat) {y : Str} {py : Pos} {spos : Pos} (hc : X.calm = true) (hN : X.N.Nodup) (hi : JI c X W tg iter src) (ok : BlkOk X.N X.env.scope scope own)
    (hg : ∀ (s : Shared) (H : Hp) (C : Addr) (cl : List (Str × Addr)) (fp : List Addr), JGo c (X.blk s H scope (compEnvC scope cl C X.env) fp) (own.map (·.2)) tg g)
    (ht : ∀ (s : Shared) (H : Hp) (C : Addr) (cl : List (Str × Addr)) (fp : List Addr), JTs c (X.blk s H scope (compEnvC scope cl C X.env) fp) W0 ifs mt)
    (he : ∀ (s : Shared) (H : Hp) (C : Addr) (cl : List (Str × Addr)) (fp : List Addr), JE c (X.blk s H scope (compEnvC scope cl C X.env) fp) W0 elt ma)
    (hsw : swapsWith (.ListComp elt [⟨tg, iter, ifs, 0⟩] scope pos) (some (.Name y py)) spos.line X.env = pure true)
    (hy : X.N[i]? = some y := by rfl) (hyl : X.env.scope.names.lookup y = some .local := by rfl) (hs : ∀ x, foldedSetIterable iter X.env x = pure x := by intro _; rfl) :
    JS c X W (.Assign [.Name y py] (.ListComp elt [⟨tg, iter, ifs, 0⟩] scope pos) spos) (sAsg (eLc (own.map (·.2)) src g mt ma) (Mm.gName i)) := by
  obtain ⟨wi, pi, si⟩ := hi.ex
  refine ⟨_, ps_setLc hc hN hy hyl hsw pi ok (fun s H C cl fp => (hg s H C cl fp).pg) (fun s H C cl fp => (ht s H C cl fp).pts) (fun s H C cl fp => (he s H C cl fp).pe) hs, fun w fs hs σ De S E h => ?_⟩
  have h2 := (PostS.bindS h E).bind
  refine si w fs hs σ _ S E (h2.imp fun p h1 w1 l1 S1 p1 J sJ => fun A hA => ?_)
  exact lc_sound (Q := fun v H => De.nx (σ.set i (some v)) H) sJ S1 (E.le l1) (p1.imp fun d h2 w2 l2 S2 p2 v r => p2 w2 _ (Wd.le.refl w2) S2 (((E.le l1).le l2).set r)) A hA
end
end Mm
namespace Mm
open PySem PySem.Spec PyProof.Rows L2
section
variable {c : Ct} {ρ ρ' : List Addr} {F F' : Hp}
mutual
theorem Rp.closed : ∀ {d : D} {v : V}, Rp c ρ F d v → closed ρ.length d = true
  | .non, _, _ => rfl
  | .bl _, _, _ => rfl
  | .int _, _, _ => rfl
  | .str _, _, _ => rfl
  | .t ds, _, h => by unfold Rp at h; obtain ⟨a, vs, e, q, r⟩ := h; unfold Mm.closed; exact Rps.closed r
  | .l ds, _, h => by unfold Rp at h; obtain ⟨a, vs, e, q, r⟩ := h; unfold Mm.closed; exact Rps.closed r
  | .st ds, _, h => by unfold Rp at h; obtain ⟨a, vs, e, q, r⟩ := h; unfold Mm.closed; exact Rps.closed r
  | .rt ds, _, h => by unfold Rp at h; obtain ⟨a, vs, e, q, r⟩ := h; unfold Mm.closed; exact Rps.closed r
  | .rl ds, _, h => by unfold Rp at h; obtain ⟨a, vs, e, q, r⟩ := h; unfold Mm.closed; exact Rps.closed r
  | .dk ks ds, _, h => by unfold Rp at h; obtain ⟨a, vs, e, q, z, r⟩ := h; unfold Mm.closed; exact Rps.closed r
  | .loc n, _, h => by unfold Rp at h; obtain ⟨a, e, q⟩ := h; unfold Mm.closed; exact decide_eq_true (List.getElem?_eq_some_iff.mp q).1
  | .g _, _, _ => rfl
  | .ty _, _, _ => rfl
theorem Rps.closed : ∀ {ds : List D} {vs : List V}, Rps c ρ F ds vs → closedL ρ.length ds = true
  | [], _, _ => rfl
  | d :: ds, vs, h => by
    unfold Rps at h
    obtain ⟨v, r, e, h1, h2⟩ := h
    unfold closedL
    rw [Rp.closed h1, Rps.closed h2]; rfl
end
mutual
theorem closed_mono {m n : Nat} (h : m ≤ n) : ∀ {d : D}, closed m d = true → closed n d = true
  | .non, _ => rfl
  | .bl _, _ => rfl
  | .int _, _ => rfl
  | .str _, _ => rfl
  | .t ds, q => by unfold Mm.closed at q ⊢; exact closedL_mono h q
  | .l ds, q => by unfold Mm.closed at q ⊢; exact closedL_mono h q
  | .st ds, q => by unfold Mm.closed at q ⊢; exact closedL_mono h q
  | .rt ds, q => by unfold Mm.closed at q ⊢; exact closedL_mono h q
  | .rl ds, q => by unfold Mm.closed at q ⊢; exact closedL_mono h q
  | .dk ks ds, q => by unfold Mm.closed at q ⊢; exact closedL_mono h q
  | .loc k, q => by unfold Mm.closed at q ⊢; exact decide_eq_true (Nat.lt_of_lt_of_le (of_decide_eq_true q) h)
  | .g _, _ => rfl
  | .ty _, _ => rfl
theorem closedL_mono {m n : Nat} (h : m ≤ n) : ∀ {ds : List D}, closedL m ds = true → closedL n ds = true
  | [], _ => rfl
  | d :: ds, q => by
    unfold closedL at q ⊢
    obtain ⟨q1, q2⟩ := Bool.and_eq_true_iff.mp q
    rw [closed_mono h q1, closedL_mono h q2]; rfl
end
theorem closedO_mono {m n : Nat} (h : m ≤ n) {o : O} (q : closedO m o = true) : closedO n o = true := by
  cases o with
  | lst ds => exact closedL_mono h q
  | dk kvs => exact closedL_mono h q
  | dt kvs => exact closedL_mono h q
  | lt kvs ho => exact closedL_mono h q
  | ins x fs => exact closedL_mono h q
  | dead => rfl
theorem RO.closed {o : O} {ho : HO} (r : RO c ρ F o ho) : closedO ρ.length o = true := by
  cases o with
  | lst ds => obtain ⟨vs, e, r⟩ := r; exact r.closed
  | dk kvs => obtain ⟨us, e, k, r⟩ := r; exact r.closed
  | dt kvs => obtain ⟨us, e, k, r⟩ := r; exact r.closed
  | lt kvs ho0 => obtain ⟨e0, od, us, e, k, r⟩ := r; exact r.closed
  | ins x fs => obtain ⟨dx, us, e, k, r⟩ := r; exact r.closed
  | dead => rfl
mutual
theorem Rp.shrink {m : Nat} : ∀ {d : D} {v : V}, closed m d = true → Rp c ρ F d v → Rp c (ρ.take m) F d v
  | .non, _, _, h => h
  | .bl _, _, _, h => h
  | .int _, _, _, h => h
  | .str _, _, _, h => h
  | .t ds, _, q, h => by unfold Rp at h ⊢; unfold Mm.closed at q; obtain ⟨a, vs, e, z, r⟩ := h; exact ⟨a, vs, e, z, Rps.shrink q r⟩
  | .l ds, _, q, h => by unfold Rp at h ⊢; unfold Mm.closed at q; obtain ⟨a, vs, e, z, r⟩ := h; exact ⟨a, vs, e, z, Rps.shrink q r⟩
  | .st ds, _, q, h => by unfold Rp at h ⊢; unfold Mm.closed at q; obtain ⟨a, vs, e, z, r⟩ := h; exact ⟨a, vs, e, z, Rps.shrink q r⟩
  | .rt ds, _, q, h => by unfold Rp at h ⊢; unfold Mm.closed at q; obtain ⟨a, vs, e, z, r⟩ := h; exact ⟨a, vs, e, z, Rps.shrink q r⟩
  | .rl ds, _, q, h => by unfold Rp at h ⊢; unfold Mm.closed at q; obtain ⟨a, vs, e, z, r⟩ := h; exact ⟨a, vs, e, z, Rps.shrink q r⟩
  | .dk ks ds, _, q, h => by unfold Rp at h ⊢; unfold Mm.closed at q; obtain ⟨a, vs, e, z, y, r⟩ := h; exact ⟨a, vs, e, z, y, Rps.shrink q r⟩
  | .loc n, _, q, h => by
    unfold Rp at h ⊢
    unfold Mm.closed at q
    obtain ⟨a, e, z⟩ := h
    exact ⟨a, e, by rw [List.getElem?_take_of_lt (of_decide_eq_true q)]; exact z⟩
  | .g _, _, _, h => h
  | .ty _, _, _, h => h
theorem Rps.shrink {m : Nat} : ∀ {ds : List D} {vs : List V}, closedL m ds = true → Rps c ρ F ds vs → Rps c (ρ.take m) F ds vs
  | [], _, _, h => h
  | d :: ds, vs, q, h => by
    unfold closedL at q
    obtain ⟨q1, q2⟩ := Bool.and_eq_true_iff.mp q
    unfold Rps at h ⊢
    obtain ⟨v, r, e, h1, h2⟩ := h
    exact ⟨v, r, e, Rp.shrink q1 h1, Rps.shrink q2 h2⟩
end
theorem RO.shrink {m : Nat} {o : O} {ho : HO} (q : closedO m o = true) (r : RO c ρ F o ho) : RO c (ρ.take m) F o ho := by
  cases o with
  | lst ds => obtain ⟨vs, e, r⟩ := r; exact ⟨vs, e, r.shrink q⟩
  | dk kvs => obtain ⟨us, e, k, r⟩ := r; exact ⟨us, e, k, r.shrink q⟩
  | dt kvs => obtain ⟨us, e, k, r⟩ := r; exact ⟨us, e, k, r.shrink q⟩
  | lt kvs ho0 => obtain ⟨e0, od, us, e, k, r⟩ := r; exact ⟨e0, od, us, e, k, r.shrink q⟩
  | ins x fs => obtain ⟨dx, us, e, k, r⟩ := r; exact ⟨dx, us, e, k, r.shrink q⟩
  | dead => trivial
end
theorem take_get {α : Type} {l : List α} {m i : Nat} {x : α} (h : (l.take m)[i]? = some x) : i < m ∧ l[i]? = some x := by
  rw [List.getElem?_take] at h
  split at h
  · rename_i hi; exact ⟨hi, h⟩
  · cases h
/-- what a def has made is forgotten -/
theorem trim_world {c : Ct} {w w' : Wd} {hs hs' : Hs} {m : Nat} (S : SR c w hs) (l : w.le w') (S' : SR c w' hs') (T : Trims hs hs' m) : w.le ⟨w'.ρ.take m, w'.F, w'.H⟩ ∧ SR c ⟨w'.ρ.take m, w'.F, w'.H⟩ (hs'.take m) := by
  obtain ⟨h1, h2, h3⟩ := T
  obtain ⟨s, es, ns⟩ := l.pre
  have hm : w.ρ.length ≤ m := by rw [S.len]; exact h1
  refine ⟨⟨⟨s.take (m - w.ρ.length), ?_, fun a ha => ns a (List.mem_of_mem_take ha)⟩, l.sub, l.keep, l.there, l.newF⟩, ⟨S'.sub, ?_, ?_, fun i a o q1 q2 d => ?_, fun i a o q1 q2 => ?_⟩⟩
  · show w'.ρ.take m = w.ρ ++ s.take (m - w.ρ.length)
    rw [es, List.take_append]
    rw [List.take_of_length_le hm]
  · show (w'.ρ.take m).length = (hs'.take m).length
    rw [List.length_take, List.length_take, S'.len]
  · exact List.Sublist.nodup (List.take_sublist _ _) S'.nd
  · obtain ⟨i1, e1⟩ := take_get q1
    obtain ⟨_, e2⟩ := take_get q2
    exact S'.fr i a o e1 e2 d
  · obtain ⟨i1, e1⟩ := take_get q1
    obtain ⟨_, e2⟩ := take_get q2
    obtain ⟨ho, z1, z2⟩ := S'.ob i a o e1 e2
    refine ⟨ho, z1, z2.shrink ?_⟩
    rcases h3 i i1 with q | ⟨o', q, k⟩
    · rw [e2] at q
      have hi : i < w.ρ.length := by rw [S.len]; exact (List.getElem?_eq_some_iff.mp q.symm).1
      obtain ⟨ho', _, r⟩ := S.ob i w.ρ[i] o (List.getElem?_eq_getElem hi) q.symm
      exact closedO_mono hm r.closed
    · rw [e2] at q
      cases q
      exact k
/-- the promise of a def, by its mirror -/
def SpC (c : Ct) (cf : List D → Hs → R D) : Sp := fun vs H Q E => ∃ ρ F hs ds, SR c ⟨ρ, F, H⟩ hs ∧ Rps c ρ F ds vs ∧ Post c ⟨ρ, F, H⟩ (cf ds hs) Q E
theorem start_re {c : Ct} {w : Wd} {n : Nat} {N : List Str} {ds : List D} {vs : List V} (hN : N.length = n) (r : Rps c w.ρ w.F ds vs) : RE c w (Mm.start n ds) (L2.start N vs) := by
  unfold Mm.start L2.start
  refine ⟨by simp [r.length, hN], fun i d e => ?_⟩
  by_cases hi : i < ds.length
  · rw [List.getElem?_append_left (by simpa using hi), List.getElem?_map] at e
    cases q : ds[i]? with
    | none => rw [q] at e; cases e
    | some x =>
      rw [q] at e
      cases e
      obtain ⟨v, z1, z2⟩ := r.get q
      exact ⟨v, by rw [List.getElem?_append_left (by rw [List.length_map, r.length]; exact hi), List.getElem?_map, z1]; rfl, z2⟩
  · rw [List.getElem?_append_right (by simpa using hi)] at e
    have := List.mem_of_getElem? e
    simp at this
section
variable {P : Program} {pw : World} {K : PySem.W.Frag} {mg : Str → Option Value} {base : Heap} {x qual : Str} {params : Arguments} {body : List Stmt} {scope : Scope} {dvs : List V} {kws : List (Str × V)} {f : Addr} {fd : FuncData} {c : Ct}
/-- A DEF keeps its mirror's promise -/
theorem def_ok {N ps : List Str} {k : Nat} (np n kk : Nat) {m : MS} (Fd : FunD K x qual params body scope dvs kws f fd) (S : FnScope N ps scope) (hps : ps.length = np) (hN : N.length = n)
    (hb : ∀ (cdv : Value) (A : Around) (outer : List Env) (s : Shared) (H : Hp) (E : XK), Room k (A.deeper (envOfC qual scope s.heap.objs.size f cdv)) →
      JSs c (cxOf (L2.CX P pw) P pw K mg base N qual scope f cdv A outer s H E) (fun cls d _ H => E cls d H) body m) :
    FnOk P pw K mg base (L2.CX P pw) (k + 1) f fd ps (SpC c (callD np n kk m)) := by
  refine Fd.ok S (fun vs H Q E h => ?_) (fun cdv A outer s H vs Q E hr h => ?_)
  · obtain ⟨ρ, F, hs, ds, S, r, p⟩ := h
    unfold callD at p
    split at p
    · rename_i hl
      rw [r.length, hl, hps]
    · exact p.elim
  · obtain ⟨ρ, F, hs, ds, S, r, p⟩ := h
    obtain ⟨t, pt, st⟩ := (hb cdv A outer s H E hr).ex
    refine ⟨t, pt, ?_⟩
    refine st ⟨ρ, F, H⟩ (Mm.start n ds) hs (L2.start N vs) _ S (start_re (w := ⟨ρ, F, H⟩) hN r) ?_
    unfold callD at p
    split at p
    · unfold runD at p
      have okc : ∀ (d : D) (h' : Hs), (m (Mm.start n ds) hs).toR = .ok d h' → ∀ (w' : Wd) (v : V), (⟨ρ, F, H⟩ : Wd).le w' → SR c w' h' → Rp c w'.ρ w'.F d v → Q v w'.H := fun d h' e w' v l S' rv => by
        rw [e] at p
        by_cases hc : Mm.closed (hs.length + kk) d = true ∧ Trims hs h' (hs.length + kk)
        · have e2 : trim kk hs (.ok d h') = .ok d (h'.take (hs.length + kk)) := by unfold trim; exact if_pos hc
          rw [e2] at p
          obtain ⟨l2, S2⟩ := trim_world S l S' hc.2
          exact p _ l2 S2 v (rv.shrink hc.1)
        · have e2 : trim kk hs (.ok d h') = .bad := by unfold trim; exact if_neg hc
          rw [e2] at p
          exact p.elim
      cases e : m (Mm.start n ds) hs with
      | nx fs' h' => exact fun w' σ' l S' E' => okc .non h' (by rw [e]; rfl) w' .non l S' rfl
      | ret d h' => exact fun w' v l S' rv => okc d h' (by rw [e]; rfl) w' v l S' rv
      | brk fs' h' => rw [e] at p; exact p.elim
      | cnt fs' h' => rw [e] at p; exact p.elim
      | bad => rw [e] at p; exact p.elim
      | exc x q fs' h' =>
        rw [e] at p
        by_cases hc : Mm.closed hs.length q = true ∧ Trims hs h' hs.length
        · have e2 : trim kk hs (RS.exc x q fs' h').toR = .exc x q (h'.take hs.length) := by unfold RS.toR trim; exact if_pos hc
          rw [e2] at p
          refine fun w' od σ' l S' E' z => ?_
          obtain ⟨l2, S2⟩ := trim_world S l S' hc.2
          refine (fun z2 => p ⟨w'.ρ.take hs.length, w'.F, w'.H⟩ od l2 S2 z2) ?_
          rcases z with ⟨e1, e2⟩ | ⟨dd, fl, d, v, e1, e2, e3, e4⟩
          · exact .inl ⟨e1, e2⟩
          · refine .inr ⟨dd, fl, d, v, e1, e2, e3, e4.shrink ?_⟩
            have h1 := hc.1
            rw [e2] at h1
            unfold Mm.closed closedL closedL at h1
            obtain ⟨_, h2⟩ := Bool.and_eq_true_iff.mp h1
            exact (Bool.and_eq_true_iff.mp h2).1
        · have e2 : trim kk hs (RS.exc x q fs' h').toR = .bad := by unfold RS.toR trim; exact if_neg hc
          rw [e2] at p
          exact p.elim
    · exact p.elim
end
section
variable {c : Ct} {X : Cx} {W : WX} {e : Expr} {es : List Expr} {mas : MA} {pos p : Pos} {x : Str} {f : Addr} {fd : FuncData} {ps : List Str} {k : Nat} {cf : List D → Hs → R D}
/-- what leaves a callee is wished for -/
def Pz (X : Cx) (W : WX) : Prop := ∀ σ, PassesAt (L2.CX X.prog X.w) X σ (WE W σ)
theorem pz_of (tk : Takes X W) : Pz X W := fun σ => passAt tk σ
theorem je_call (G : FnOk X.prog X.w X.K X.mg X.base (L2.CX X.prog X.w) k f fd ps (SpC c cf)) (hr : Room k X.A) (hm : X.mg x = some (.ref f)) (hk : PySem.W.keepIn X.K (.ref f) = true) (hb : Binds X.K fd ps []) (hx : Pz X W) (hg : Gl X x)
    (ha : JA c X W (e :: es) mas) (hdb : (x == ("__debug__" : Str)) = false := by decide) (he : starEach (e :: es) X.env = (false, eval e X.env) :: starEach es X.env := by rfl) (hpl : (backTo pos (starEach es X.env)).any (·.1) = false := by rfl) :
    JE c X W (.Call (.Name x p) (e :: es) [] pos) (eArgs cf mas) := by
  obtain ⟨ta, pa, sa⟩ := ha.ex
  refine ⟨_, pe_callS G hr hg hm hk hb hx pa hdb he hpl, fun w fs hs σ Q S E h => ?_⟩
  refine sa w fs hs σ _ S E (h.bind.imp fun ds h1 w1 l1 S1 p1 vs rs => ?_)
  exact ⟨w1.ρ, w1.F, h1, ds, S1, rs, p1⟩
end
end Mm
namespace Mm
def sOk (x : Str) : Bool := x.cps.all (· < 0x110000)
mutual
/-- plain data, not deeper than n -/
def okd (n : Nat) : D → Bool
  | .non => true
  | .bl _ => true
  | .int _ => true
  | .str s => sOk s
  | .t ds => okL n ds
  | .st ds => okL n ds
  | .l ds => okL n ds
  | _ => false
def okL (n : Nat) : List D → Bool
  | [] => decide (0 < n)
  | d :: ds => (match n with
    | 0 => false
    | k + 1 => okd k d) && okL n ds
end
mutual
/-- Python's == of plain data -/
def deq : D → D → Bool
  | .non, .non => true
  | .bl a, .bl b => a == b
  | .bl a, .int j => (if a then 1 else 0) == j
  | .int i, .bl b => i == (if b then 1 else 0)
  | .int i, .int j => i == j
  | .str x, .str y => x == y
  | .l xs, .l ys => deqL xs ys
  | .t xs, .t ys => deqL xs ys
  | .t xs, .st ys => deqL xs ys
  | .st xs, .t ys => deqL xs ys
  | .st xs, .st ys => deqL xs ys
  | _, _ => false
def deqL : List D → List D → Bool
  | [], [] => true
  | x :: xs, y :: ys => deq x y && deqL xs ys
  | _, _ => false
end
/-- a tracked list by its items -/
def res (d : D) (hs : Hs) : D := match d with
  | .loc n => match hs[n]? with
    | some (.lst ds) => .l ds
    | _ => .loc n
  | d => d
def dictOf (d : D) (hs : Hs) : Option (List (Key × D)) := match d with
  | .dk ks ds => some (ks.zip ds)
  | .loc n => match hs[n]? with
    | some (.dk kvs) => some kvs
    | _ => none
  | _ => none
/-- == where one side is the empty dict -/
def emD (x y : D) (hs : Hs) : Option Bool := match dictOf x hs, dictOf y hs with
  | some a, some [] => some a.isEmpty
  | _, _ => none
def eqB (x y : D) (hs : Hs) : Option Bool := if (okd 60 (res x hs) && okd 60 (res y hs)) = true then some (deq (res x hs) (res y hs)) else emD x y hs
def vEq (x y : D) (hs : Hs) : R D := match eqB x y hs with
  | some b => .ok (.bl b) hs
  | none => .bad
def vNe (x y : D) (hs : Hs) : R D := match eqB x y hs with
  | some b => .ok (.bl (!b)) hs
  | none => .bad
def isNon : D → Bool
  | .non => true
  | _ => false
/-- is None: of what is no global -/
def vIsN (x _ : D) (hs : Hs) : R D := .ok (.bl (isNon x)) hs
def vNotN (x _ : D) (hs : Hs) : R D := .ok (.bl (!isNon x)) hs
mutual
def dlt : D → D → Bool
  | .int i, .int j => decide (i < j)
  | .bl a, .bl b => decide ((if a then 1 else 0 : Int) < (if b then 1 else 0))
  | .str x, .str y => decide (x.cps.toList < y.cps.toList)
  | .l xs, .l ys => dltL xs ys
  | .t xs, .t ys => dltL xs ys
  | .t xs, .st ys => dltL xs ys
  | .st xs, .t ys => dltL xs ys
  | .st xs, .st ys => dltL xs ys
  | _, _ => false
def dltL : List D → List D → Bool
  | [], [] => false
  | [], _ :: _ => true
  | _ :: _, [] => false
  | x :: xs, y :: ys => if deq x y = true then dltL xs ys else dlt x y
end
mutual
def likeD : D → D → Bool
  | .non, .non => true
  | .bl _, .bl _ => true
  | .int _, .int _ => true
  | .str _, .str _ => true
  | .l xs, .l ys => likeL xs ys
  | .t xs, .t ys => likeL xs ys
  | .t xs, .st ys => likeL xs ys
  | .st xs, .t ys => likeL xs ys
  | .st xs, .st ys => likeL xs ys
  | _, _ => false
def likeL : List D → List D → Bool
  | [], _ => true
  | _ :: _, [] => true
  | x :: xs, y :: ys => likeD x y && likeL xs ys
end
def cmpOk (x y : D) : Bool := okd 60 x && okd 60 y && likeD x y && !isNon x
def vI (f : Int → Int → Bool) (x y : D) (hs : Hs) : R D := match x, y with
  | .int i, .int j => .ok (.bl (f i j)) hs
  | _, _ => .bad
def vLe : D → D → Hs → R D := vI fun i j => decide (i ≤ j)
def vGt : D → D → Hs → R D := vI fun i j => decide (j < i)
def vGe : D → D → Hs → R D := vI fun i j => decide (j ≤ i)
def listOf (d : D) (hs : Hs) : Option (List D) := match d with
  | .l ds => some ds
  | .loc n => match hs[n]? with
    | some (.lst ds) => some ds
    | _ => none
  | _ => none
def vAdd (x y : D) (hs : Hs) : R D := match x, y with
  | .int i, .int j => .ok (.int (i + j)) hs
  | .t ds, .t es => if ds.length + es.length ≤ 100000 then .ok (.t (ds ++ es)) hs else .bad
  | .str a, .str b => if a.length + b.length ≤ 100000 then .ok (.str (a ++ b)) hs else .bad
  | x, y => match listOf x hs, listOf y hs with
    | some ds, some es => if ds.length + es.length ≤ 100000 then .ok (.l (ds ++ es)) hs else .bad
    | _, _ => .bad
def vSub (x y : D) (hs : Hs) : R D := match x, y with
  | .int i, .int j => .ok (.int (i - j)) hs
  | _, _ => .bad
def big : Int := 2 ^ 64
def vMul (x y : D) (hs : Hs) : R D := match x, y with
  | .int i, .int j => if (-big < i ∧ i < big) ∨ (-big < j ∧ j < big) then .ok (.int (i * j)) hs else .bad
  | _, _ => .bad
def vFdiv (x y : D) (hs : Hs) : R D := match x, y with
  | .int i, .int j => if 0 < j ∧ j < 1073741824 then .ok (.int (i / j)) hs else .bad
  | _, _ => .bad
def vMod (x y : D) (hs : Hs) : R D := match x, y with
  | .int i, .int j => if 0 < j then .ok (.int (i % j)) hs else .bad
  | _, _ => .bad
def vPow (x y : D) (hs : Hs) : R D := match x, y with
  | .int i, .int j => if 0 ≤ j ∧ j ≤ 1000 ∧ i.natAbs < 2 ^ 64 then .ok (.int (i ^ j.toNat)) hs else .bad
  | _, _ => .bad
def vNeg (x : D) (hs : Hs) : R D := match x with
  | .int i => .ok (.int (-i)) hs
  | _ => .bad
def keyOf : D → Option Key
  | .int i => some (.inl i)
  | .str s => some (.inr s)
  | _ => none
def keysOf : D → Option (List Key)
  | .t ds => ds.mapM keyOf
  | _ => none
def dget {κ : Type} [DecidableEq κ] : List (κ × D) → κ → Option D
  | [], _ => none
  | p :: r, k => if p.1 = k then some p.2 else dget r k
def dput {κ : Type} [DecidableEq κ] (kvs : List (κ × D)) (k : κ) (v : D) : List (κ × D) :=
  if (kvs.any fun p => decide (p.1 = k)) = true then kvs.map (fun p => if p.1 = k then (p.1, v) else p) else kvs ++ [(k, v)]
def ddrop {κ : Type} [DecidableEq κ] (kvs : List (κ × D)) (k : κ) : List (κ × D) := kvs.filter fun p => decide (p.1 ≠ k)
/-- what a dict holds at a key; none: it isn't one, or the key is none -/
def dlook (x k : D) (hs : Hs) : Option (Option D) := match x with
  | .dk ks ds => (keyOf k).map fun q => dget (ks.zip ds) q
  | .loc n => match hs[n]? with
    | some (.dk kvs) => (keyOf k).map fun q => dget kvs q
    | some (.dt kvs) => (keysOf k).map fun q => dget kvs q
    | some (.lt kvs _) => (keysOf k).map fun q => dget kvs q
    | _ => none
  | _ => none
def vIxD (x k : D) (hs : Hs) : R D := match dlook x k hs with
  | some (some d) => .ok d hs
  | _ => .bad
def sIx (n dflt : Nat) : Option Int → Nat
  | none => dflt
  | some i => if i < 0 then (i + n).toNat else min i.toNat n
def cut (ds : List D) (lo hi : Option Int) : List D := (ds.drop (sIx ds.length 0 lo)).take (sIx ds.length ds.length hi - sIx ds.length 0 lo)
def vSl (x : D) (lo hi : Option Int) (hs : Hs) : R D := match x with
  | .t ds => .ok (.t (cut ds lo hi)) hs
  | x => match listOf x hs with
    | some ds => .ok (.l (cut ds lo hi)) hs
    | none => .bad
def flatD : D → Bool
  | .non => true
  | .bl _ => true
  | .int _ => true
  | .str _ => true
  | _ => false
def inB (x y : D) (hs : Hs) : Option Bool := match y with
  | .t ds => if (flatD x && ds.all flatD) = true then some (ds.any fun z => deq z x) else none
  | .rt ds => if (flatD x && ds.all flatD) = true then some (ds.any fun z => deq z x) else none
  | y => match listOf y hs with
    | some ds => if (okd 60 x && okd 60 (.l ds)) = true then some (ds.any fun z => deq z x) else none
    | none => (dlook y x hs).map Option.isSome
def vIn (x y : D) (hs : Hs) : R D := match inB x y hs with
  | some b => .ok (.bl b) hs
  | none => .bad
def vNotIn (x y : D) (hs : Hs) : R D := match inB x y hs with
  | some b => .ok (.bl (!b)) hs
  | none => .bad
def vLen (ds : List D) (hs : Hs) : R D := match one1 ds with
  | some d => match seqOf d hs with
    | some es => .ok (.int es.length) hs
    | none => .bad
  | none => .bad
def vAbs (ds : List D) (hs : Hs) : R D := match int1 ds with
  | some i => .ok (.int (if i < 0 then -i else i)) hs
  | none => .bad
def seqA (ds : List D) (hs : Hs) : Option (List D) := (one1 ds).bind fun d => seqOf d hs
/-- list(xs): frozen; open -/
def vList (ds : List D) (hs : Hs) : R D := match seqA ds hs with
  | some es => .ok (.l es) hs
  | none => .bad
def intsOf : List D → Option (List Int)
  | [] => some []
  | .int i :: r => (intsOf r).map (i :: ·)
  | _ => none
/-- the first of the least -/
def leastD (d : D) (ds : List D) : D := ds.foldl (fun a y => if dlt y a = true then y else a) d
def minOk (ds : List D) : Bool := ds.all fun x => (okd 60 x && !isNon x) && ds.all fun y => likeD x y
/-- min(d.values()) -/
def vMinV (d : D) (hs : Hs) : R D := match dictOf d hs with
  | some (x :: xs) => if minOk ((x :: xs).map (·.2)) = true then .ok (leastD x.2 (xs.map (·.2))) hs else .bad
  | _ => .bad
def two2 : List D → Option (D × D)
  | [a, b] => some (a, b)
  | _ => none
theorem two2_some {ds : List D} {p : D × D} (h : two2 ds = some p) : ds = [p.1, p.2] := by
  unfold two2 at h
  split at h
  · cases h; rfl
  · cases h
def vMin2 (ds : List D) (hs : Hs) : R D := match two2 ds with
  | some (a, b) => if (cmpOk a b && cmpOk b a) = true then .ok (if dlt b a = true then b else a) hs else .bad
  | none => .bad
/-- isinstance of a built-in type -/
def isiB (d : D) (T : String) (hs : Hs) : Option Bool := match d with
  | .non => some false
  | .bl _ => some (T == "bool" || T == "int")
  | .int _ => some (T == "int")
  | .str _ => some (T == "str")
  | .t _ => some (T == "tuple")
  | .st _ => some (T == "tuple")
  | .rt _ => some (T == "tuple")
  | .l _ => some (T == "list")
  | .loc n => match hs[n]? with
    | some (.lst _) => some (T == "list")
    | _ => none
  | _ => none
def vIsi (ds : List D) (hs : Hs) : R D := match two2 ds with
  | some (d, .ty T) => match isiB d T hs with
    | some b => if (["bool", "int", "str", "tuple", "list"] : List String).contains T = true then .ok (.bl b) hs else .bad
    | none => .bad
  | _ => .bad
def mAppend (x : D) (ds : List D) (hs : Hs) : R D := match x, one1 ds with
  | .loc n, some d => match hs[n]? with
    | some (.lst es) => if es.length < 100000 then .ok .non (hs.set n (.lst (es ++ [d]))) else .bad
    | _ => .bad
  | _, _ => .bad
/-- xs.pop(i), 0 ≤ i -/
def mPopAt (x : D) (ds : List D) (hs : Hs) : R D := match x, int1 ds with
  | .loc n, some i => match hs[n]? with
    | some (.lst es) => if 0 ≤ i ∧ i ≤ 100000 then (match es[i.toNat]? with
      | some d => .ok d (hs.set n (.lst (es.eraseIdx i.toNat)))
      | none => .bad) else .bad
    | _ => .bad
  | _, _ => .bad
/-- d.pop(k), it is there -/
def mPopK (x : D) (ds : List D) (hs : Hs) : R D := match x, (one1 ds).bind keyOf with
  | .loc n, some k => match hs[n]? with
    | some (.dk kvs) => match dget kvs k with
      | some v => .ok v (hs.set n (.dk (ddrop kvs k)))
      | none => .bad
    | _ => .bad
  | _, _ => .bad
def mGet2 (x : D) (ds : List D) (hs : Hs) : R D := match two2 ds with
  | some (k, z) => match dlook x k hs with
    | some o => .ok (o.getD z) hs
    | none => .bad
  | none => .bad
/-- o[i] = v -/
def setIx (o i v : D) (hs : Hs) : R Unit := match o with
  | .loc n => match hs[n]?, i with
    | some (.lst es), .int k => match ixN es.length k with
      | some j => .ok () (hs.set n (.lst (es.set j v)))
      | none => .bad
    | some (.dk kvs), k => match keyOf k with
      | some q => if kvs.length < 100000 then .ok () (hs.set n (.dk (dput kvs q v))) else .bad
      | none => .bad
    | some (.dt kvs), k => match keysOf k with
      | some q => if kvs.length < 100000 then .ok () (hs.set n (.dt (dput kvs q v))) else .bad
      | none => .bad
    | _, _ => .bad
  | _ => .bad
/-- {} -/
def eDk : M := fun _ hs => .ok (.loc hs.length) (hs ++ [.dk []])
def eDt : M := fun _ hs => .ok (.loc hs.length) (hs ++ [.dt []])
def eDf : M := fun _ hs => .ok (.dk [] []) hs
/-- {k: v}, open -/
def vDisp1 (ds : List D) (hs : Hs) : R D := match two2 ds with
  | some (k, v) => match keyOf k with
    | some q => .ok (.loc hs.length) (hs ++ [.dk [(q, v)]])
    | none => .bad
  | none => .bad
end Mm
namespace Mm
open PySem PySem.Spec PyProof.Rows L2
mutual
def toPy : D → PyData
  | .non => .none
  | .bl b => .bool b
  | .int i => .int i
  | .str s => .str s
  | .t ds => .tuple (toPyL ds)
  | .st ds => .tuple (toPyL ds)
  | .l ds => .list (toPyL ds)
  | _ => .none
def toPyL : List D → List PyData
  | [] => []
  | d :: ds => toPy d :: toPyL ds
end
mutual
theorem okd_py : ∀ {d : D} {n : Nat}, okd n d = true → (toPy d).canLay0 = true ∧ (toPy d).depth ≤ n
  | .non, _, _ => ⟨by simp [toPy, PyData.canLay0], by simp [toPy, PyData.depth]⟩
  | .bl _, _, _ => ⟨by simp [toPy, PyData.canLay0], by simp [toPy, PyData.depth]⟩
  | .int _, _, _ => ⟨by simp [toPy, PyData.canLay0], by simp [toPy, PyData.depth]⟩
  | .str s, _, h => ⟨by simp only [toPy, PyData.canLay0]; exact h, by simp [toPy, PyData.depth]⟩
  | .t ds, n, h => by
    unfold okd at h
    obtain ⟨h1, h2, h3⟩ := okL_py h
    exact ⟨by simp only [toPy, PyData.canLay0]; exact h1, by simp only [toPy, PyData.depth]; omega⟩
  | .st ds, n, h => by
    unfold okd at h
    obtain ⟨h1, h2, h3⟩ := okL_py h
    exact ⟨by simp only [toPy, PyData.canLay0]; exact h1, by simp only [toPy, PyData.depth]; omega⟩
  | .l ds, n, h => by
    unfold okd at h
    obtain ⟨h1, h2, h3⟩ := okL_py h
    exact ⟨by simp only [toPy, PyData.canLay0]; exact h1, by simp only [toPy, PyData.depth]; omega⟩
  | .dk _ _, _, h => by simp [okd] at h
  | .rt _, _, h => by simp [okd] at h
  | .rl _, _, h => by simp [okd] at h
  | .loc _, _, h => by simp [okd] at h
  | .g _, _, h => by simp [okd] at h
  | .ty _, _, h => by simp [okd] at h
theorem okL_py : ∀ {ds : List D} {n : Nat}, okL n ds = true → PyData.canLayAll0 (toPyL ds) = true ∧ PyData.depthAll (toPyL ds) + 1 ≤ n ∧ 0 < n
  | [], n, h => by
    unfold okL at h
    exact ⟨by simp [toPyL, PyData.canLayAll0], by simp [toPyL, PyData.depthAll]; have := of_decide_eq_true h; omega, of_decide_eq_true h⟩
  | d :: ds, 0, h => by simp [okL] at h
  | d :: ds, n + 1, h => by
    unfold okL at h
    obtain ⟨h1, h2⟩ := Bool.and_eq_true_iff.mp h
    obtain ⟨a1, a2⟩ := okd_py (d := d) (n := n) h1
    obtain ⟨b1, b2, b3⟩ := okL_py (ds := ds) h2
    refine ⟨by simp [toPyL, PyData.canLayAll0, a1, b1], ?_, by omega⟩
    simp only [toPyL, PyData.depthAll]
    omega
end
theorem shaped_of {d : D} (h : okd 60 d = true) : SeqAt.shaped (toPy d) = true := by
  obtain ⟨h1, h2⟩ := okd_py h
  unfold SeqAt.shaped
  rw [h1, decide_eq_true (show (toPy d).depth ≤ 64 by omega)]; rfl
mutual
theorem deq_eqv : ∀ {x y : D} {n m : Nat}, okd n x = true → okd m y = true → deq x y = PyData.eqv (toPy x) (toPy y)
  | .non, y, _, _, _, hy => by cases y <;> first | (simp [okd] at hy; done) | simp [deq, toPy, PyData.eqv]
  | .bl _, y, _, _, _, hy => by cases y <;> first | (simp [okd] at hy; done) | simp [deq, toPy, PyData.eqv]
  | .int _, y, _, _, _, hy => by cases y <;> first | (simp [okd] at hy; done) | simp [deq, toPy, PyData.eqv]
  | .str _, y, _, _, _, hy => by cases y <;> first | (simp [okd] at hy; done) | simp [deq, toPy, PyData.eqv]
  | .t xs, y, n, m, hx, hy => by
    cases y <;> first | (simp [okd] at hy; done) | skip
    all_goals first | (simp [deq, toPy, PyData.eqv]; done) | skip
    all_goals
      rename_i ys
      unfold okd at hx hy
      simp only [deq, toPy, PyData.eqv]
      exact deqL_eqv hx hy
  | .st xs, y, n, m, hx, hy => by
    cases y <;> first | (simp [okd] at hy; done) | skip
    all_goals first | (simp [deq, toPy, PyData.eqv]; done) | skip
    all_goals
      rename_i ys
      unfold okd at hx hy
      simp only [deq, toPy, PyData.eqv]
      exact deqL_eqv hx hy
  | .l xs, y, n, m, hx, hy => by
    cases y <;> first | (simp [okd] at hy; done) | skip
    all_goals first | (simp [deq, toPy, PyData.eqv]; done) | skip
    all_goals
      rename_i ys
      unfold okd at hx hy
      simp only [deq, toPy, PyData.eqv]
      exact deqL_eqv hx hy
  | .dk _ _, _, _, _, h, _ => by simp [okd] at h
  | .rt _, _, _, _, h, _ => by simp [okd] at h
  | .rl _, _, _, _, h, _ => by simp [okd] at h
  | .loc _, _, _, _, h, _ => by simp [okd] at h
  | .g _, _, _, _, h, _ => by simp [okd] at h
  | .ty _, _, _, _, h, _ => by simp [okd] at h
theorem deqL_eqv : ∀ {xs ys : List D} {n m : Nat}, okL n xs = true → okL m ys = true → deqL xs ys = PyData.eqvAll (toPyL xs) (toPyL ys)
  | [], ys, _, _, _, _ => by cases ys <;> simp [deqL, toPyL, PyData.eqvAll]
  | x :: xs, [], _, _, _, _ => by simp [deqL, toPyL, PyData.eqvAll]
  | x :: xs, y :: ys, 0, _, hx, _ => by simp [okL] at hx
  | x :: xs, y :: ys, _, 0, _, hy => by simp [okL] at hy
  | x :: xs, y :: ys, n + 1, m + 1, hx, hy => by
    unfold okL at hx hy
    obtain ⟨a1, a2⟩ := Bool.and_eq_true_iff.mp hx
    obtain ⟨b1, b2⟩ := Bool.and_eq_true_iff.mp hy
    simp only [deqL, toPyL, PyData.eqvAll]
    rw [deq_eqv (n := n) (m := m) a1 b1, deqL_eqv a2 b2]
end
section
variable {c : Ct} {K : PySem.W.Frag} {w : Wd} {hs : Hs}
mutual
theorem Rp.dp (hF : ∀ a o, w.F a = some o → w.H a = some o) : ∀ {d : D} {v : V} {n : Nat}, okd n d = true → Rp c w.ρ w.F d v → Dp K w.H v (toPy d)
  | .non, _, _, _, r => by obtain rfl := r; exact .non
  | .bl _, _, _, _, r => by obtain rfl := r; exact .bl _
  | .int _, _, _, _, r => by obtain rfl := r; exact .int _
  | .str _, _, _, _, r => by obtain rfl := r; exact .str _
  | .t ds, v, n, h, r => by
    unfold Rp at r
    unfold okd at h
    obtain ⟨a, vs, rfl, q, rs⟩ := r
    exact .tup (SqT.of (hF _ _ q)) (Rps.dp hF h rs)
  | .st ds, v, n, h, r => by
    unfold Rp at r
    unfold okd at h
    obtain ⟨a, vs, rfl, q, rs⟩ := r
    exact .tup (sqt_sub hF (st_sqt q)) (Rps.dp hF h rs)
  | .l ds, v, n, h, r => by
    unfold Rp at r
    unfold okd at h
    obtain ⟨a, vs, rfl, q, rs⟩ := r
    exact .lst (SqL.of (hF _ _ q)) (Rps.dp hF h rs)
  | .dk _ _, _, _, h, _ => by simp [okd] at h
  | .rt _, _, _, h, _ => by simp [okd] at h
  | .rl _, _, _, h, _ => by simp [okd] at h
  | .loc _, _, _, h, _ => by simp [okd] at h
  | .g _, _, _, h, _ => by simp [okd] at h
  | .ty _, _, _, h, _ => by simp [okd] at h
theorem Rps.dp (hF : ∀ a o, w.F a = some o → w.H a = some o) : ∀ {ds : List D} {vs : List V} {n : Nat}, okL n ds = true → Rps c w.ρ w.F ds vs → DpAll K w.H vs (toPyL ds)
  | [], vs, _, _, r => by unfold Rps at r; subst r; exact .nil
  | d :: ds, vs, 0, h, _ => by simp [okL] at h
  | d :: ds, vs, n + 1, h, r => by
    unfold okL at h
    obtain ⟨h1, h2⟩ := Bool.and_eq_true_iff.mp h
    unfold Rps at r
    obtain ⟨v, r', rfl, q1, q2⟩ := r
    exact .cons (Rp.dp hF (n := n) h1 q1) (Rps.dp hF h2 q2)
end
/-- a tracked list reads as its items -/
theorem res_dp {d : D} {v : V} (S : SR c w hs) (h : okd 60 (res d hs) = true) (r : Rp c w.ρ w.F d v) : Dp K w.H v (toPy (res d hs)) := by
  cases d with
  | loc n =>
    unfold Rp at r
    obtain ⟨a, rfl, q⟩ := r
    unfold res at h ⊢
    cases e : hs[n]? with
    | none => simp only [e] at h; simp [okd] at h
    | some o =>
      cases o with
      | lst ds =>
        simp only [e] at h ⊢
        obtain ⟨ho, e1, vs, rfl, rr⟩ := loc_at S q e
        unfold okd at h
        exact .lst (SqL.of e1) (Rps.dp S.sub h rr)
      | _ => simp only [e] at h; simp [okd] at h
  | _ => exact Rp.dp S.sub h r
/-- what stands behind dictOf -/
theorem dictOf_at {d : D} {v : V} {kvs : List (Key × D)} (S : SR c w hs) (h : dictOf d hs = some kvs) (r : Rp c w.ρ w.F d v) : ∃ a us, v = .ref a ∧ w.H a = some (.dK us) ∧ us.map (·.1) = kvs.map (·.1) ∧ Rps c w.ρ w.F (kvs.map (·.2)) (us.map (·.2)) := by
  cases d with
  | dk ks ds =>
    unfold Rp at r
    obtain ⟨a, us, rfl, q, z, rs⟩ := r
    unfold dictOf at h
    cases h
    have hl : ks.length = ds.length := by rw [← z, List.length_map, ← List.length_map (f := fun p : Key × V => p.2), rs.length]
    exact ⟨a, us, rfl, S.sub _ _ q, by rw [z, List.map_fst_zip (by omega)], by rw [List.map_snd_zip (by omega)]; exact rs⟩
  | loc n =>
    unfold Rp at r
    obtain ⟨a, rfl, q⟩ := r
    unfold dictOf at h
    cases e : hs[n]? with
    | none => simp [e] at h
    | some o =>
      cases o with
      | dk us =>
        simp only [e] at h
        cases h
        obtain ⟨ho, e1, us, rfl, k, rr⟩ := loc_at S q e
        exact ⟨a, us, rfl, e1, k, rr⟩
      | _ => simp [e] at h
  | _ => simp [dictOf] at h
theorem listOf_at {d : D} {v : V} {es : List D} (S : SR c w hs) (h : listOf d hs = some es) (r : Rp c w.ρ w.F d v) : ∃ a vs, v = .ref a ∧ w.H a = some (.lst vs) ∧ Rps c w.ρ w.F es vs := by
  cases d with
  | l ds =>
    unfold Rp at r
    obtain ⟨a, vs, rfl, q, rs⟩ := r
    unfold listOf at h
    cases h
    exact ⟨a, vs, rfl, S.sub _ _ q, rs⟩
  | loc n =>
    unfold Rp at r
    obtain ⟨a, rfl, q⟩ := r
    unfold listOf at h
    cases e : hs[n]? with
    | none => simp [e] at h
    | some o =>
      cases o with
      | lst us =>
        simp only [e] at h
        cases h
        obtain ⟨ho, e1, us, rfl, rr⟩ := loc_at S q e
        exact ⟨a, us, rfl, e1, rr⟩
      | _ => simp [e] at h
  | _ => simp [listOf] at h
theorem seqOf_at {d : D} {v : V} {es : List D} (S : SR c w hs) (hK : K = c.K) (h : seqOf d hs = some es) (r : Rp c w.ρ w.F d v) : ∃ a vs, v = .ref a ∧ (SqL K w.H a vs ∨ SqT K w.H a vs) ∧ Rps c w.ρ w.F es vs := by
  subst hK
  cases d with
  | t ds => unfold Rp at r; obtain ⟨a, vs, rfl, q, rs⟩ := r; cases h; exact ⟨a, vs, rfl, .inr (SqT.of (S.sub _ _ q)), rs⟩
  | rt ds => unfold Rp at r; obtain ⟨a, vs, rfl, q, rs⟩ := r; cases h; exact ⟨a, vs, rfl, .inr (sqt_sub S.sub q), rs⟩
  | st ds => unfold Rp at r; obtain ⟨a, vs, rfl, q, rs⟩ := r; cases h; exact ⟨a, vs, rfl, .inr (sqt_sub S.sub (st_sqt q)), rs⟩
  | rl ds => unfold Rp at r; obtain ⟨a, vs, rfl, q, rs⟩ := r; cases h; exact ⟨a, vs, rfl, .inl (sql_sub S.sub q), rs⟩
  | l ds => unfold Rp at r; obtain ⟨a, vs, rfl, q, rs⟩ := r; cases h; exact ⟨a, vs, rfl, .inl (SqL.of (S.sub _ _ q)), rs⟩
  | loc n =>
    obtain ⟨a, vs, e, q, rs⟩ := listOf_at (es := es) S (by unfold seqOf at h; unfold listOf; exact h) r
    exact ⟨a, vs, e, .inl (SqL.of q), rs⟩
  | _ => simp [seqOf] at h
end
section
variable {c : Ct} {X : Cx}
/-- a dict against the empty one -/
def rEqE : R2 := fun x y H Q => ∃ a b kvs, x = .ref a ∧ y = .ref b ∧ H a = some (.dK kvs) ∧ H b = some (.dK []) ∧ Q (.bl kvs.isEmpty) H
def rNeE : R2 := fun x y H Q => ∃ a b kvs, x = .ref a ∧ y = .ref b ∧ H a = some (.dK kvs) ∧ H b = some (.dK []) ∧ Q (.bl (!kvs.isEmpty)) H
theorem jo_eqD (f : Bool → Bool) {op : CmpOp} {rr : R2} (h1 : OpR X (compareOp op) (fun x y H Q => ∃ d e, Dp X.K H x d ∧ Dp X.K H y e ∧ SeqAt.shaped d = true ∧ SeqAt.shaped e = true ∧ Q (.bl (f (PyData.eqv d e))) H))
    (h2 : OpR X (compareOp op) (fun x y H Q => ∃ a b kvs, x = .ref a ∧ y = .ref b ∧ H a = some (.dK kvs) ∧ H b = some (.dK []) ∧ Q (.bl (f kvs.isEmpty)) H)) :
    JO c X (compareOp op) (fun x y hs => match eqB x y hs with
      | some b => .ok (.bl (f b)) hs
      | none => .bad) := by
  refine ⟨_, h1.or h2, fun w hs x y vx vy Q E S rx ry h => ?_⟩
  cases e : eqB x y hs with
  | none => simp only [e] at h; exact h.elim
  | some b =>
    simp only [e] at h
    unfold eqB at e
    split at e
    · rename_i hok
      obtain ⟨ox, oy⟩ := Bool.and_eq_true_iff.mp hok
      cases e
      refine .inl ⟨_, _, res_dp S ox rx, res_dp S oy ry, shaped_of ox, shaped_of oy, ?_⟩
      rw [← deq_eqv ox oy]
      exact h.now S _ rfl
    · unfold emD at e
      cases e1 : dictOf x hs with
      | none => simp [e1] at e
      | some kv =>
        cases e2 : dictOf y hs with
        | none => simp [e1, e2] at e
        | some kv2 =>
          cases kv2 with
          | cons p r => simp [e1, e2] at e
          | nil =>
            simp only [e1, e2] at e
            cases e
            obtain ⟨a, us, rfl, q1, k1, r1⟩ := dictOf_at S e1 rx
            obtain ⟨b, us2, rfl, q2, k2, r2⟩ := dictOf_at S e2 ry
            have u2 : us2 = [] := by
              have := congrArg List.length k2
              simpa using this
            subst u2
            refine .inr ⟨a, b, us, rfl, rfl, q1, q2, ?_⟩
            have u1 : us.isEmpty = kv.isEmpty := by
              have := congrArg List.length k1
              simp only [List.length_map] at this
              cases us <;> cases kv <;> simp_all
            rw [u1]
            exact h.now S _ rfl
theorem op_eqE (hu : X.A.units < cLine) : OpR X (compareOp .Eq) rEqE := by
  intro pins s σ H x y v u Q I rx ry h
  obtain ⟨a, b, kvs, rfl, rfl, ha, hb, q⟩ := h
  cases rx; cases ry
  obtain ⟨z1, d1, vs1, rel1, dd1⟩ := dk_of I.hok ha
  obtain ⟨z2, d2, vs2, rel2, dd2⟩ := dk_of I.hok hb
  have e2 : vs2 = [] := by cases rel2; rfl
  subst e2
  show wpAny _ _ (richCompare .Eq (.ref a) (.ref b)) _ _ _
  refine PySem.W.rcP_dicts (r := true) d1 d2 dd1 dd2 hu (fun hl => ?_) _ _ ?_
  · cases vs1 with
    | nil => exact .nil
    | cons p r => simp at hl
  · refine ⟨.bl _, H, I, rfl, ?_⟩
    have e3 : (vs1.length == ([] : List (Key × Value)).length && true) = kvs.isEmpty := by
      have := isEmpty_kv rel1
      cases kvs <;> cases vs1 <;> simp_all
    rw [e3]
    exact q
theorem op_neE (hu : X.A.units < cLine) : OpR X (compareOp .NotEq) rNeE := by
  intro pins s σ H x y v u Q I rx ry h
  obtain ⟨a, b, kvs, rfl, rfl, ha, hb, q⟩ := h
  cases rx; cases ry
  obtain ⟨z1, d1, vs1, rel1, dd1⟩ := dk_of I.hok ha
  obtain ⟨z2, d2, vs2, rel2, dd2⟩ := dk_of I.hok hb
  have e2 : vs2 = [] := by cases rel2; rfl
  subst e2
  show wpAny _ _ (richCompare .NotEq (.ref a) (.ref b)) _ _ _
  refine wpAny_richCompare_same_room (op := .NotEq) dd1.typeIs dd2.typeIs PySem.F.slot_dict_ne (wpAny_call_entry PySem.F.slot_dict_ne dd1.typeIs PySem.F.entry_dict_ne ?_ (PySem.F.args_dict_ne_2 _ _)) hu
  show wpAny _ _ (Builtin.Dict.dictSlotArgs "__ne__" ⟨[.ref a, .ref b], []⟩ >>= _) _ _ s
  refine wpAny_bind ?_
  unfold Builtin.Dict.dictSlotArgs
  refine wpAny_bind (wpAny_notOrdered_dict dd1.typeIs ?_)
  refine wpAny_pure ?_
  refine wpAny_bind (wpAny_isInstance (T := "dict") dd2.typeIs PySem.F.sub_dict_dict ?_)
  rw [show (!true) = false from rfl, if_neg (by decide)]
  refine wpAny_bind (wpAny_pure ?_); refine wpAny_bind (wpAny_pure ?_)
  refine wpAny_bind (PySem.W.samePairsP (r := true) d1 d2 dd1 dd2 (fun hl => ?_) ?_)
  · cases vs1 with
    | nil => exact .nil
    | cons p r => simp at hl
  · refine wpAny_pure ⟨_, rfl, ?_, ?_⟩
    · exact fun x => nomatch x
    · refine ⟨.bl _, H, I, rfl, ?_⟩
      have e3 : ((vs1.length == ([] : List (Key × Value)).length && true) == false) = !kvs.isEmpty := by
        have := isEmpty_kv rel1
        cases kvs <;> cases vs1 <;> simp_all
      rw [e3]
      exact q
theorem jo_eq (hu : X.A.units + 64 < cLine) : JO c X (compareOp .Eq) vEq :=
  jo_eqD (rr := rEqE) (fun b => b) (op_eqD hu) (op_eqE (by omega))
theorem jo_ne (hu : X.A.units + 64 < cLine) : JO c X (compareOp .NotEq) vNe :=
  jo_eqD (rr := rNeE) (fun b => !b) (op_neD hu) (op_neE (by omega))
theorem isNon_rp {ρ : List Addr} {F : Hp} {d : D} {v : V} (r : Rp c ρ F d v) : isNon d = decide (v = .non) := by
  cases d with
  | non => obtain rfl := r; rfl
  | bl b => obtain rfl := r; rfl
  | int b => obtain rfl := r; rfl
  | str b => obtain rfl := r; rfl
  | t ds => unfold Rp at r; obtain ⟨a, vs, rfl, _⟩ := r; rfl
  | l ds => unfold Rp at r; obtain ⟨a, vs, rfl, _⟩ := r; rfl
  | rt ds => unfold Rp at r; obtain ⟨a, vs, rfl, _⟩ := r; rfl
  | st ds => unfold Rp at r; obtain ⟨a, vs, rfl, _⟩ := r; rfl
  | rl ds => unfold Rp at r; obtain ⟨a, vs, rfl, _⟩ := r; rfl
  | dk ks ds => unfold Rp at r; obtain ⟨a, vs, rfl, _⟩ := r; rfl
  | loc n => unfold Rp at r; obtain ⟨a, rfl, _⟩ := r; rfl
  | g x => obtain rfl := r; rfl
  | ty x => obtain rfl := r; rfl
/-- is None: the right side None -/
def onN (f : D → D → Hs → R D) (x y : D) (hs : Hs) : R D := if isNon y = true then f x y hs else .bad
theorem jo_isN : JO c X (compareOp .Is) (onN vIsN) := by
  refine ⟨_, op_isN, fun w hs x y vx vy Q E S rx ry h => ?_⟩
  unfold onN at h
  split at h
  · rename_i hn
    rw [isNon_rp ry] at hn
    refine ⟨of_decide_eq_true hn, ?_⟩
    rw [← isNon_rp rx]
    exact h.now S _ rfl
  · exact h.elim
theorem jo_notN : JO c X (compareOp .IsNot) (onN vNotN) := by
  refine ⟨_, op_notN, fun w hs x y vx vy Q E S rx ry h => ?_⟩
  unfold onN at h
  split at h
  · rename_i hn
    rw [isNon_rp ry] at hn
    refine ⟨of_decide_eq_true hn, ?_⟩
    rw [← isNon_rp rx]
    exact h.now S _ rfl
  · exact h.elim
theorem jo_cmpI {op : CmpOp} {f : Int → Int → Bool} (h : OpR X (compareOp op) (rI0 fun i j => .bl (f i j))) : JO c X (compareOp op) (vI f) := by
  refine ⟨_, h, fun w hs x y vx vy Q E S rx ry h => ?_⟩
  unfold vI at h
  split at h
  · rename_i i j
    exact ⟨i, j, rx, ry, h.now S _ rfl⟩
  · exact h.elim
theorem jo_le : JO c X (compareOp .LtE) vLe := jo_cmpI op_le
theorem jo_gt : JO c X (compareOp .Gt) vGt := jo_cmpI op_gt
theorem jo_ge : JO c X (compareOp .GtE) vGe := jo_cmpI op_ge
theorem jo_sub : JO c X (binaryOp .Sub) vSub := by
  refine ⟨_, op_sub, fun w hs x y vx vy Q E S rx ry h => ?_⟩
  unfold vSub at h
  split at h
  · rename_i i j
    exact ⟨i, j, rx, ry, h.now S _ rfl⟩
  · exact h.elim
theorem jo_mul : JO c X (binaryOp .Mult) vMul := by
  refine ⟨_, op_mul, fun w hs x y vx vy Q E S rx ry h => ?_⟩
  unfold vMul at h
  split at h
  · rename_i i j
    split at h
    · rename_i hc
      exact ⟨i, j, rx, ry, hc, h.now S _ rfl⟩
    · exact h.elim
  · exact h.elim
theorem jo_fdiv : JO c X (binaryOp .FloorDiv) vFdiv := by
  refine ⟨_, op_fdiv, fun w hs x y vx vy Q E S rx ry h => ?_⟩
  unfold vFdiv at h
  split at h
  · rename_i i j
    split at h
    · rename_i hc
      exact ⟨i, j, rx, ry, hc, h.now S _ rfl⟩
    · exact h.elim
  · exact h.elim
theorem jo_mod : JO c X (binaryOp .Mod) vMod := by
  refine ⟨_, op_mod, fun w hs x y vx vy Q E S rx ry h => ?_⟩
  unfold vMod at h
  split at h
  · rename_i i j
    split at h
    · rename_i hc
      exact ⟨i, j, rx, ry, hc, h.now S _ rfl⟩
    · exact h.elim
  · exact h.elim
theorem jo_pow : JO c X (binaryOp .Pow) vPow := by
  refine ⟨_, op_pow, fun w hs x y vx vy Q E S rx ry h => ?_⟩
  unfold vPow at h
  split at h
  · rename_i i j
    split at h
    · rename_i hc
      exact ⟨i, j, rx, ry, ⟨hc.1, by omega, hc.2.2⟩, h.now S _ rfl⟩
    · exact h.elim
  · exact h.elim
theorem ju_neg : JU c X (unaryOp .USub) vNeg := by
  refine ⟨_, un_neg, fun w hs x vx Q E S rx h => ?_⟩
  unfold vNeg at h
  split at h
  · rename_i i
    exact ⟨i, rx, h.now S _ rfl⟩
  · exact h.elim
theorem jo_add : JO c X (binaryOp .Add) vAdd := by
  refine ⟨_, op_add.or (op_catA.or (op_add_str.or op_cat)), fun w hs x y vx vy Q E S rx ry h => ?_⟩
  unfold vAdd at h
  split at h
  · rename_i i j
    exact .inl ⟨i, j, rx, ry, h.now S _ rfl⟩
  · rename_i ds es
    split at h
    · rename_i hl
      unfold Rp at rx ry
      obtain ⟨a, vs, rfl, qa, ra⟩ := rx
      obtain ⟨b, us, rfl, qb, rb⟩ := ry
      refine .inr (.inl ⟨a, b, vs, us, rfl, rfl, SqT.of (S.sub _ _ qa), SqT.of (S.sub _ _ qb), by rw [ra.length, rb.length]; exact sz_le hl, fun e => ?_, fun _ e => ?_, fun _ _ p hp => ?_⟩)
      · subst e
        have : ds = [] := by have := ra.length; simpa using this.symm
        subst this
        exact h.now S _ (rp_t rb qb)
      · subst e
        have : es = [] := by have := rb.length; simpa using this.symm
        subst this
        rw [List.append_nil] at h
        exact h.now S _ (rp_t ra qa)
      · exact new_tup S (ra.append rb) h hp
    · exact h.elim
  · rename_i a b
    split at h
    · rename_i hl
      exact .inr (.inr (.inl ⟨a, b, rx, ry, sz_le hl, h.now S _ rfl⟩))
    · exact h.elim
  · split at h
    · rename_i ds es e1 e2
      split at h
      · rename_i hl
        obtain ⟨a, vs, rfl, qa, ra⟩ := listOf_at S e1 rx
        obtain ⟨b, us, rfl, qb, rb⟩ := listOf_at S e2 ry
        exact .inr (.inr (.inr ⟨a, b, vs, us, rfl, rfl, qa, qb, by rw [ra.length, rb.length]; exact sz_le hl, fun p hp => new_lst S (ra.append rb) h hp⟩))
      · exact h.elim
    · exact h.elim
theorem atI_ixN {α : Type} {xs : List α} {i : Int} {j : Nat} {x : α} (h : Mm.ixN xs.length i = some j) (e : xs[j]? = some x) : atI xs i = some x := by
  unfold atI
  unfold Mm.ixN at h
  unfold L2.ixN
  split at h
  · rename_i h0
    split at h
    · rename_i h1
      cases h
      rw [if_pos h0, if_pos h1]
      exact e
    · cases h
  · rename_i h0
    split at h
    · rename_i h1
      cases h
      rw [if_neg h0, if_pos (by omega)]
      exact e
    · cases h
theorem jx_seq (hK : X.K = c.K) : JX c X vIx := by
  refine ⟨_, ix_list.or ix_tup, fun w hs x y vx vy Q E S rx ry h => ?_⟩
  unfold vIx at h
  split at h
  · rename_i k
    split at h
    · rename_i ds e
      split at h
      · rename_i d e2
        obtain ⟨a, vs, rfl, q, rr⟩ := seqOf_at (K := X.K) S hK e rx
        cases e3 : Mm.ixN ds.length k with
        | none => rw [e3] at e2; cases e2
        | some j =>
          rw [e3] at e2
          obtain ⟨v, e4, r4⟩ := rr.get (i := j) (d := d) e2
          have e5 : atI vs k = some v := atI_ixN (j := j) (by rw [rr.length]; exact e3) e4
          rcases q with q | q
          · exact .inl ⟨a, vs, k, v, rfl, ry, q, e5, h.now S v r4⟩
          · exact .inr ⟨a, vs, k, v, rfl, ry, q, e5, h.now S v r4⟩
      · exact h.elim
    · exact h.elim
  · exact h.elim
end
end Mm
namespace Mm
open PySem PySem.Spec PyProof.Rows L2
section
variable {c : Ct} {ρ : List Addr} {F : Hp} {κ : Type}
def KR (c : Ct) (ρ : List Addr) (F : Hp) (kvs : List (κ × D)) (us : List (κ × V)) : Prop := us.map (·.1) = kvs.map (·.1) ∧ Rps c ρ F (kvs.map (·.2)) (us.map (·.2))
theorem KR.nil : KR c ρ F ([] : List (κ × D)) [] := ⟨rfl, Rps.nil⟩
theorem KR.cons {p : κ × D} {q : κ × V} {r : List (κ × D)} {s : List (κ × V)} (h1 : q.1 = p.1) (h2 : Rp c ρ F p.2 q.2) (h : KR c ρ F r s) : KR c ρ F (p :: r) (q :: s) :=
  ⟨by simp [h1, h.1], Rps.cons h2 h.2⟩
theorem KR.inv {p : κ × D} {r : List (κ × D)} {us : List (κ × V)} (h : KR c ρ F (p :: r) us) : ∃ q s, us = q :: s ∧ q.1 = p.1 ∧ Rp c ρ F p.2 q.2 ∧ KR c ρ F r s := by
  obtain ⟨h1, h2⟩ := h
  cases us with
  | nil => simp at h1
  | cons q s =>
    simp only [List.map_cons, List.cons.injEq] at h1
    have h3 : Rps c ρ F (p.2 :: r.map (·.2)) (q.2 :: s.map (·.2)) := h2
    unfold Rps at h3
    obtain ⟨v, t, e, r1, r2⟩ := h3
    cases e
    exact ⟨q, s, rfl, h1.1, r1, h1.2, r2⟩
theorem KR.inv0 {us : List (κ × V)} (h : KR c ρ F ([] : List (κ × D)) us) : us = [] := by
  have := congrArg List.length h.1
  simpa using this
variable [DecidableEq κ]
def OR (c : Ct) (ρ : List Addr) (F : Hp) : Option D → Option V → Prop
  | some d, ov => ∃ v, ov = some v ∧ Rp c ρ F d v
  | none, ov => ov = none
theorem KR.look (k : κ) : ∀ {kvs : List (κ × D)} {us : List (κ × V)}, KR c ρ F kvs us → OR c ρ F (dget kvs k) (valV us k)
  | [], us, h => by rw [h.inv0]; exact valV_nil
  | p :: r, us, h => by
    obtain ⟨q, s, rfl, e, rp, h'⟩ := h.inv
    have ih := KR.look k h'
    unfold dget
    by_cases z : p.1 = k
    · rw [if_pos z]
      exact ⟨q.2, valV_pos (e.trans z), rp⟩
    · rw [if_neg z, valV_neg (fun y => z (e.symm.trans y))]
      exact ih
theorem KR.any (k : κ) : ∀ {kvs : List (κ × D)} {us : List (κ × V)}, KR c ρ F kvs us → (us.any fun p => decide (p.1 = k)) = kvs.any fun p => decide (p.1 = k)
  | [], us, h => by rw [h.inv0]; rfl
  | p :: r, us, h => by
    obtain ⟨q, s, rfl, e, rp, h'⟩ := h.inv
    rw [List.any_cons, List.any_cons, KR.any k h', e]
theorem KR.mapk (k : κ) {d : D} {v : V} (rv : Rp c ρ F d v) : ∀ {kvs : List (κ × D)} {us : List (κ × V)}, KR c ρ F kvs us → KR c ρ F (kvs.map fun p => if p.1 = k then (p.1, d) else p) (us.map fun p => if p.1 = k then (p.1, v) else p)
  | [], us, h => by rw [h.inv0]; exact KR.nil
  | p :: r, us, h => by
    obtain ⟨q, s, rfl, e, rp, h'⟩ := h.inv
    rw [List.map_cons, List.map_cons]
    by_cases z : p.1 = k
    · rw [if_pos z, if_pos (e.trans z)]
      exact KR.cons e rv (KR.mapk k rv h')
    · rw [if_neg z, if_neg (fun y => z (e.symm.trans y))]
      exact KR.cons e rp (KR.mapk k rv h')
theorem KR.app : ∀ {kvs kvs2 : List (κ × D)} {us us2 : List (κ × V)}, KR c ρ F kvs us → KR c ρ F kvs2 us2 → KR c ρ F (kvs ++ kvs2) (us ++ us2)
  | [], _, us, _, h, h2 => by rw [h.inv0]; exact h2
  | p :: r, _, us, _, h, h2 => by
    obtain ⟨q, s, rfl, e, rp, h'⟩ := h.inv
    exact KR.cons e rp (KR.app h' h2)
theorem KR.put {kvs : List (κ × D)} {us : List (κ × V)} (k : κ) {d : D} {v : V} (h : KR c ρ F kvs us) (rv : Rp c ρ F d v) : KR c ρ F (dput kvs k d) (putK us k v) := by
  unfold dput putK
  rw [h.any k]
  split
  · exact h.mapk k rv
  · exact h.app (KR.cons rfl rv KR.nil)
theorem KR.drop (k : κ) : ∀ {kvs : List (κ × D)} {us : List (κ × V)}, KR c ρ F kvs us → KR c ρ F (ddrop kvs k) (dropK us k)
  | [], us, h => by rw [h.inv0]; exact KR.nil
  | p :: r, us, h => by
    obtain ⟨q, s, rfl, e, rp, h'⟩ := h.inv
    unfold ddrop dropK
    rw [List.filter_cons, List.filter_cons, e]
    split
    · exact KR.cons e rp (KR.drop k h')
    · exact KR.drop k h'
theorem KR.len {kvs : List (κ × D)} {us : List (κ × V)} (h : KR c ρ F kvs us) : us.length = kvs.length := by
  have := congrArg List.length h.1
  simpa using this
end
theorem zip_kr {c : Ct} {ρ : List Addr} {F : Hp} {ks : List Mm.Key} {ds : List D} {us : List (Mm.Key × V)} (z : us.map (·.1) = ks) (rs : Rps c ρ F ds (us.map (·.2))) : KR c ρ F (ks.zip ds) us := by
  have hl : ks.length = ds.length := by rw [← z, List.length_map, ← List.length_map (f := fun p : Mm.Key × V => p.2), rs.length]
  exact ⟨by rw [z, List.map_fst_zip (by omega)], by rw [List.map_snd_zip (by omega)]; exact rs⟩
section
variable {c : Ct} {w : Wd} {hs : Hs}
theorem key_at {d : D} {v : V} {k : Mm.Key} (h : keyOf d = some k) (r : Rp c w.ρ w.F d v) : v = kV k := by
  cases d <;> first | (simp [keyOf] at h; done) | skip
  · cases h; exact r
  · cases h; exact r
theorem keys_at : ∀ {ds : List D} {vs : List V} {ks : List Mm.Key}, ds.mapM keyOf = some ks → Rps c w.ρ w.F ds vs → vs = ks.map kV
  | [], vs, ks, h, r => by
    unfold Rps at r
    subst r
    simp at h
    subst h
    rfl
  | d :: ds, vs, ks, h, r => by
    unfold Rps at r
    obtain ⟨v, r', rfl, r1, r2⟩ := r
    rw [List.mapM_cons] at h
    cases e : keyOf d with
    | none => rw [e] at h; cases h
    | some k =>
      rw [e] at h
      cases e2 : ds.mapM keyOf with
      | none => rw [e2] at h; cases h
      | some ks' =>
        rw [e2] at h
        cases h
        rw [key_at e r1, keys_at e2 r2]
        rfl
theorem dlook_at {x k : D} {vx vk : V} {o : Option D} (S : SR c w hs) (h : dlook x k hs = some o) (rx : Rp c w.ρ w.F x vx) (rk : Rp c w.ρ w.F k vk) : ∃ a ov, vx = .ref a ∧ DGet w.H a vk ov ∧ OR c w.ρ w.F o ov := by
  cases x with
  | dk ks ds =>
    unfold Rp at rx
    obtain ⟨a, us, rfl, q, z, rs⟩ := rx
    unfold dlook at h
    cases e : keyOf k with
    | none => simp [e] at h
    | some kk =>
      simp only [e, Option.map_some] at h
      cases h
      refine ⟨a, _, rfl, by rw [key_at e rk]; exact DGet.k (S.sub _ _ q), (zip_kr z rs).look kk⟩
  | loc n =>
    unfold Rp at rx
    obtain ⟨a, rfl, q⟩ := rx
    unfold dlook at h
    cases e : hs[n]? with
    | none => simp [e] at h
    | some oo =>
      cases oo with
      | dk kvs =>
        simp only [e] at h
        obtain ⟨ho, e1, us, rfl, k1, rr⟩ := loc_at S q e
        cases e3 : keyOf k with
        | none => simp [e3] at h
        | some kk =>
          simp only [e3, Option.map_some] at h
          cases h
          refine ⟨a, _, rfl, by rw [key_at e3 rk]; exact DGet.k e1, KR.look kk (show KR c w.ρ w.F kvs us from ⟨k1, rr⟩)⟩
      | dt kvs =>
        simp only [e] at h
        obtain ⟨ho, e1, us, rfl, k1, rr⟩ := loc_at S q e
        cases k with
        | t ks =>
          cases e3 : ks.mapM keyOf with
          | none => simp [keysOf, e3] at h
          | some kk =>
            simp only [keysOf, e3, Option.map_some] at h
            cases h
            unfold Rp at rk
            obtain ⟨b, vs, rfl, qb, rb⟩ := rk
            refine ⟨a, _, rfl, DGet.t (k := kk) e1 (by rw [← keys_at e3 rb]; exact S.sub _ _ qb), KR.look kk (show KR c w.ρ w.F kvs us from ⟨k1, rr⟩)⟩
        | _ => simp [keysOf] at h
      | lt kvs ho0 =>
        simp only [e] at h
        obtain ⟨ho, e1, e0, od, us, rfl, k1, rr⟩ := loc_at S q e
        cases k with
        | t ks =>
          cases e3 : ks.mapM keyOf with
          | none => simp [keysOf, e3] at h
          | some kk =>
            simp only [keysOf, e3, Option.map_some] at h
            cases h
            unfold Rp at rk
            obtain ⟨b, vs, rfl, qb, rb⟩ := rk
            refine ⟨a, _, rfl, .inr ⟨us, kk, b, .inr ⟨od, e1⟩, rfl, by rw [← keys_at e3 rb]; exact S.sub _ _ qb, rfl⟩, KR.look kk (show KR c w.ρ w.F kvs us from ⟨k1, rr⟩)⟩
        | _ => simp [keysOf] at h
      | _ => simp [e] at h
  | _ => simp [dlook] at h
end
section
variable {c : Ct} {X : Cx}
def rIxD : R2 := fun x y H Q => ∃ a v, x = .ref a ∧ DGet H a y (some v) ∧ Q v H
theorem ix_dict (hu : X.A.units + 1 < cLine) : IxR X rIxD := by
  intro value slice pins s σ H x y v u Q I rx ry h hs
  obtain ⟨a, z, rfl, g, q⟩ := h
  cases rx
  exact tail_any (dict_typeIs I g) PySem.F.slot_dict_getitem.lookup (d_getItem hu I g ry fun w' s' I' rw' => ⟨z, H, I', rw', q⟩) hs
theorem jx_dict (hu : X.A.units + 1 < cLine) : JX c X vIxD := by
  refine ⟨_, ix_dict hu, fun w hs x y vx vy Q E S rx ry h => ?_⟩
  unfold vIxD at h
  split at h
  · rename_i d e
    obtain ⟨a, ov, rfl, g, v, rfl, r⟩ := dlook_at S e rx ry
    exact ⟨a, v, rfl, g, h.now S v r⟩
  · exact h.elim
theorem cut_rps {ρ : List Addr} {F : Hp} {ds : List D} {vs : List V} (lo hi : Option Int) (r : Rps c ρ F ds vs) : Rps c ρ F (cut ds lo hi) (cutV vs lo hi) := by
  unfold cut cutV
  rw [r.length]
  exact Rps.take _ (Rps.drop _ r)
theorem jsl : JSl c X vSl := by
  refine ⟨_, sl_tupA.or sl_list, fun w hs x vx lo hi Q E S rx h => ?_⟩
  unfold vSl at h
  split at h
  · rename_i ds
    unfold Rp at rx
    obtain ⟨a, vs, rfl, q, r⟩ := rx
    refine .inl ⟨a, vs, rfl, SqT.of (S.sub _ _ q), fun e => ?_, fun _ p hp => new_tup S (cut_rps lo hi r) h hp⟩
    have e2 : cut ds lo hi = ds := by
      unfold cut
      rw [r.length] at e
      rw [show sIx ds.length 0 lo = 0 from e.1, show sIx ds.length ds.length hi = ds.length from e.2]
      simp
    rw [e2] at h
    exact h.now S _ (rp_t r q)
  · split at h
    · rename_i ds e
      obtain ⟨a, vs, rfl, q, r⟩ := listOf_at S e rx
      exact .inr ⟨a, vs, rfl, SqL.of q, fun p hp => new_lst S (cut_rps lo hi r) h hp⟩
    · exact h.elim
def rInK (f : Bool → Bool) : R2 := fun x y H Q => ∃ a o, y = .ref a ∧ DGet H a x o ∧ Q (.bl (f o.isSome)) H
theorem op_inK (hu : X.A.units + 1 < cLine) : OpR X (compareOp .In) (rInK fun b => b) := by
  intro pins s σ H x y v u Q I rx ry h
  obtain ⟨a, o, rfl, g, q⟩ := h
  cases ry
  exact d_in hu I g rx fun s' I' => ⟨.bl o.isSome, H, I', rfl, q⟩
theorem op_notInK (hu : X.A.units + 1 < cLine) : OpR X (compareOp .NotIn) (rInK fun b => !b) := by
  intro pins s σ H x y v u Q I rx ry h
  obtain ⟨a, o, rfl, g, q⟩ := h
  cases ry
  exact d_notIn hu I g rx fun s' I' => ⟨.bl (!o.isSome), H, I', rfl, q⟩
theorem flat_rp {ρ : List Addr} {F : Hp} {d : D} {v : V} (h : flatD d = true) (r : Rp c ρ F d v) : flatV v = true ∧ ∀ {e : D} {u : V}, flatD e = true → Rp c ρ F e u → eqV v u = deq d e := by
  cases d <;> first | (simp [flatD] at h; done) | skip
  all_goals
    obtain rfl := r
    refine ⟨rfl, fun {e u} he re => ?_⟩
    cases e <;> first | (simp [flatD] at he; done) | skip
    all_goals
      obtain rfl := re
      rfl
theorem flats_rp {ρ : List Addr} {F : Hp} {x : D} {vx : V} (fx : flatD x = true) (rx : Rp c ρ F x vx) : ∀ {ds : List D} {vs : List V}, ds.all flatD = true → Rps c ρ F ds vs → vs.all flatV = true ∧ inV vx vs = ds.any fun z => deq z x
  | [], vs, _, r => by unfold Rps at r; subst r; exact ⟨rfl, rfl⟩
  | d :: ds, vs, h, r => by
    unfold Rps at r
    obtain ⟨v, r', rfl, r1, r2⟩ := r
    rw [List.all_cons] at h
    obtain ⟨h1, h2⟩ := Bool.and_eq_true_iff.mp h
    obtain ⟨a1, a2⟩ := flat_rp h1 r1
    obtain ⟨b1, b2⟩ := flats_rp fx rx h2 r2
    refine ⟨by rw [List.all_cons, a1, b1]; rfl, ?_⟩
    show (eqV v vx || inV vx r') = _
    rw [b2, a2 fx rx, List.any_cons]
theorem toPyL_any {x : D} {n : Nat} (hx : okd 60 x = true) : ∀ {ds : List D}, okL n ds = true → (ds.any fun z => deq z x) = (toPyL ds).any fun z => PyData.eqv z (toPy x)
  | [], _ => rfl
  | d :: ds, h => by
    cases n with
    | zero => simp [okL] at h
    | succ n =>
      unfold okL at h
      obtain ⟨h1, h2⟩ := Bool.and_eq_true_iff.mp h
      rw [List.any_cons, toPyL, List.any_cons, toPyL_any hx h2, deq_eqv (n := n) h1 hx]
theorem jo_inG {op : CmpOp} (f : Bool → Bool) (hK : X.K = c.K) (h1 : OpR X (compareOp op) (fun x y H Q => ∃ p xs, y = .ref p ∧ (SqL X.K H p xs ∨ SqT X.K H p xs) ∧ flatV x = true ∧ xs.all flatV = true ∧ Q (.bl (f (inV x xs))) H))
    (h2 : OpR X (compareOp op) (fun x y H Q => ∃ d ds, Dp X.K H x d ∧ Dp X.K H y (.list ds) ∧ SeqAt.shaped d = true ∧ SeqAt.shaped (.list ds) = true ∧ Q (.bl (f (ds.any fun z => PyData.eqv z d))) H))
    (h3 : OpR X (compareOp op) (rInK f)) : JO c X (compareOp op) (fun x y hs => match inB x y hs with
      | some b => .ok (.bl (f b)) hs
      | none => .bad) := by
  refine ⟨_, h1.or (h2.or h3), fun w hs x y vx vy Q E S rx ry h => ?_⟩
  cases e : inB x y hs with
  | none => simp only [e] at h; exact h.elim
  | some b =>
    simp only [e] at h
    have gen : ∀ y, Rp c w.ρ w.F y vy → (match listOf y hs with
        | some ds => if (okd 60 x && okd 60 (.l ds)) = true then some (ds.any fun z => deq z x) else none
        | none => (dlook y x hs).map Option.isSome) = some b → (∃ d ds, Dp X.K w.H vx d ∧ Dp X.K w.H vy (.list ds) ∧ SeqAt.shaped d = true ∧ SeqAt.shaped (.list ds) = true ∧ Q (.bl (f (ds.any fun z => PyData.eqv z d))) w.H) ∨ rInK f vx vy w.H Q := fun y ry e => by
      cases e1 : listOf y hs with
      | some ds =>
        simp only [e1] at e
        split at e
        · rename_i hok
          obtain ⟨o1, o2⟩ := Bool.and_eq_true_iff.mp hok
          cases e
          obtain ⟨a, vs, rfl, q, r⟩ := listOf_at S e1 ry
          have o3 : okL 60 ds = true := by unfold okd at o2; exact o2
          refine .inl ⟨toPy x, toPyL ds, Rp.dp S.sub o1 rx, .lst (SqL.of q) (Rps.dp S.sub o3 r), shaped_of o1, shaped_of (d := .l ds) o2, ?_⟩
          rw [← toPyL_any o1 o3]
          exact h.now S _ rfl
        · cases e
      | none =>
        simp only [e1] at e
        cases e2 : dlook y x hs with
        | none => rw [e2] at e; cases e
        | some o =>
          rw [e2] at e
          cases e
          obtain ⟨a, ov, rfl, g, z⟩ := dlook_at S e2 ry rx
          refine .inr ⟨a, ov, rfl, g, ?_⟩
          have e3 : ov.isSome = o.isSome := by
            cases o with
            | none => obtain rfl : ov = none := z; rfl
            | some d => obtain ⟨v, rfl, _⟩ := z; rfl
          rw [e3]
          exact h.now S _ rfl
    unfold inB at e
    split at e
    · rename_i ds
      split at e
      · rename_i hok
        obtain ⟨o1, o2⟩ := Bool.and_eq_true_iff.mp hok
        cases e
        unfold Rp at ry
        obtain ⟨a, vs, rfl, q, r⟩ := ry
        obtain ⟨a1, a2⟩ := flats_rp o1 rx o2 r
        exact .inl ⟨a, vs, rfl, .inr (SqT.of (S.sub _ _ q)), (flat_rp o1 rx).1, a1, by rw [a2]; exact h.now S _ rfl⟩
      · cases e
    · rename_i ds
      split at e
      · rename_i hok
        obtain ⟨o1, o2⟩ := Bool.and_eq_true_iff.mp hok
        cases e
        unfold Rp at ry
        obtain ⟨a, vs, rfl, q, r⟩ := ry
        obtain ⟨a1, a2⟩ := flats_rp o1 rx o2 r
        exact .inl ⟨a, vs, rfl, .inr (by rw [hK]; exact sqt_sub S.sub q), (flat_rp o1 rx).1, a1, by rw [a2]; exact h.now S _ rfl⟩
      · cases e
    · exact .inr (gen _ ry e)
theorem jo_in (hK : X.K = c.K) (hu : X.A.units + 65 < cLine) : JO c X (compareOp .In) vIn := jo_inG (fun b => b) hK op_in_seq (op_inD hu) (op_inK (by omega))
theorem jo_notIn (hK : X.K = c.K) (hu : X.A.units + 65 < cLine) : JO c X (compareOp .NotIn) vNotIn := jo_inG (fun b => !b) hK op_notIn_seq (op_notInD hu) (op_notInK (by omega))
theorem rps1 {ρ : List Addr} {F : Hp} {d : D} {vs : List V} (r : Rps c ρ F [d] vs) : ∃ v, vs = [v] ∧ Rp c ρ F d v := by
  unfold Rps at r
  obtain ⟨v, r', rfl, h1, h2⟩ := r
  unfold Rps at h2
  subst h2
  exact ⟨v, rfl, h1⟩
theorem rps2 {ρ : List Addr} {F : Hp} {d e : D} {vs : List V} (r : Rps c ρ F [d, e] vs) : ∃ v u, vs = [v, u] ∧ Rp c ρ F d v ∧ Rp c ρ F e u := by
  unfold Rps at r
  obtain ⟨v, r', rfl, h1, h2⟩ := r
  obtain ⟨u, rfl, h3⟩ := rps1 h2
  exact ⟨v, u, rfl, h1, h3⟩
theorem jc_len (hK : X.K = c.K) : JC c X (.builtin "len") vLen := by
  refine ⟨_, call_len, fun w hs ds vs Q E S r h => ?_⟩
  unfold vLen at h
  cases e : one1 ds with
  | none => simp only [e] at h; exact h.elim
  | some d =>
    simp only [e] at h
    obtain rfl := one1_some e
    obtain ⟨v, rfl, rd⟩ := rps1 r
    cases e2 : seqOf d hs with
    | none => simp only [e2] at h; exact h.elim
    | some es =>
      simp only [e2] at h
      obtain ⟨a, us, rfl, q, rr⟩ := seqOf_at (K := X.K) S hK e2 rd
      refine ⟨_, us.length, rfl, ?_, by rw [rr.length]; exact h.now S _ rfl⟩
      rcases q with q | q
      · exact .inl ⟨us, q, rfl⟩
      · exact .inr ⟨us, q, rfl⟩
theorem jc_abs : JC c X (.builtin "abs") vAbs := by
  refine ⟨_, call_abs, fun w hs ds vs Q E S r h => ?_⟩
  unfold vAbs at h
  cases e : int1 ds with
  | none => simp only [e] at h; exact h.elim
  | some i =>
    simp only [e] at h
    obtain rfl := int1_some e
    obtain ⟨v, rfl, rd⟩ := rps1 r
    exact ⟨i, by rw [show v = .int i from rd], h.now S _ rfl⟩
theorem seqA_at {w : Wd} {hs : Hs} {ds es : List D} {vs : List V} (hK : X.K = c.K) (S : SR c w hs) (h : seqA ds hs = some es) (r : Rps c w.ρ w.F ds vs) : ∃ a us, vs = [.ref a] ∧ (SqL X.K w.H a us ∨ SqT X.K w.H a us) ∧ Rps c w.ρ w.F es us := by
  unfold seqA at h
  cases e : one1 ds with
  | none => rw [e] at h; cases h
  | some d =>
    rw [e] at h
    obtain rfl := one1_some e
    obtain ⟨v, rfl, rd⟩ := rps1 r
    obtain ⟨a, us, rfl, q, rr⟩ := seqOf_at (K := X.K) S hK h rd
    exact ⟨a, us, rfl, q, rr⟩
theorem jc_list (hK : X.K = c.K) : JC c X (.type "list") vList := by
  refine ⟨_, call_list_of, fun w hs ds vs Q E S r h => ?_⟩
  unfold vList at h
  cases e : seqA ds hs with
  | none => simp only [e] at h; exact h.elim
  | some es =>
    simp only [e] at h
    obtain ⟨a, us, rfl, q, rr⟩ := seqA_at hK S e r
    exact ⟨a, us, rfl, q, fun p hp => new_lst S rr h hp⟩
/-- isinstance of built-in types -/
theorem isi_ty {w : Wd} {hs : Hs} {d : D} {v : V} {T : String} {b : Bool} (S : SR c w hs) (r : Rp c w.ρ w.F d v) (h : isiB d T hs = some b) (hT : (["bool", "int", "str", "tuple", "list"] : List String).contains T = true) (hK : X.K = c.K) :
    ∃ t, TyX X.K w.H v t ∧ PySem.W.kitOne X.K t (.type T) = some b := by
  have hT2 : T = "bool" ∨ T = "int" ∨ T = "str" ∨ T = "tuple" ∨ T = "list" := by simpa using hT
  cases d <;> first | (simp [isiB] at h; done) | skip
  · obtain rfl := r; cases h; exact ⟨_, .base .non, by rcases hT2 with rfl | rfl | rfl | rfl | rfl <;> exact kit_ty (by decide +kernel)⟩
  · obtain rfl := r; cases h; exact ⟨_, .base (.bl _), by rcases hT2 with rfl | rfl | rfl | rfl | rfl <;> exact kit_ty (by decide +kernel)⟩
  · obtain rfl := r; cases h; exact ⟨_, .base (.int _), by rcases hT2 with rfl | rfl | rfl | rfl | rfl <;> exact kit_ty (by decide +kernel)⟩
  · obtain rfl := r; cases h; exact ⟨_, .base (.str _), by rcases hT2 with rfl | rfl | rfl | rfl | rfl <;> exact kit_ty (by decide +kernel)⟩
  · unfold Rp at r; obtain ⟨a, vs, rfl, q, _⟩ := r; cases h; exact ⟨_, .base (.tup (S.sub _ _ q)), by rcases hT2 with rfl | rfl | rfl | rfl | rfl <;> exact kit_ty (by decide +kernel)⟩
  · unfold Rp at r; obtain ⟨a, vs, rfl, q, _⟩ := r; cases h; exact ⟨_, .base (.lst (S.sub _ _ q)), by rcases hT2 with rfl | rfl | rfl | rfl | rfl <;> exact kit_ty (by decide +kernel)⟩
  · rename_i ds
    unfold Rp at r
    obtain ⟨a, vs, rfl, q, _⟩ := r
    cases h
    have q2 : SqT X.K w.H a vs := by rw [hK]; exact sqt_sub S.sub q
    have k : PySem.W.kitOne X.K (.type "tuple") (.type T) = some (T == "tuple") := by rcases hT2 with rfl | rfl | rfl | rfl | rfl <;> exact kit_ty (by decide +kernel)
    rcases q2 with (q2 | ⟨o, q2⟩) | q2
    · exact ⟨_, .base (.tup q2), k⟩
    · exact ⟨_, .fTuple q2, k⟩
    · obtain ⟨o, its, n, e1, e2, _⟩ := q2
      exact ⟨_, .kTuple e1 e2, k⟩
  · rename_i ds
    unfold Rp at r
    obtain ⟨a, vs, rfl, ⟨ob, q, _⟩, _⟩ := r
    cases h
    exact ⟨_, .fTuple (S.sub _ _ q), by rcases hT2 with rfl | rfl | rfl | rfl | rfl <;> exact kit_ty (by decide +kernel)⟩
  · unfold Rp at r
    obtain ⟨a, rfl, q⟩ := r
    rename_i n
    have h2 : (match hs[n]? with
      | some (O.lst _) => some (T == "list")
      | _ => none) = some b := h
    cases e : hs[n]? with
    | none => rw [e] at h2; cases h2
    | some o =>
      rw [e] at h2
      cases o with
      | lst ds =>
        cases h2
        obtain ⟨ho, e1, vs, rfl, rr⟩ := loc_at S q e
        exact ⟨_, .base (.lst e1), by rcases hT2 with rfl | rfl | rfl | rfl | rfl <;> exact kit_ty (by decide +kernel)⟩
      | _ => cases h2
theorem jc_isi (hK : X.K = c.K) : JC c X (.builtin "isinstance") vIsi := by
  refine ⟨_, call_isi, fun w hs ds vs Q E S r h => ?_⟩
  unfold vIsi at h
  split at h
  · rename_i d T e
    obtain rfl := two2_some e
    obtain ⟨v, u, rfl, r1, r2⟩ := rps2 r
    split at h
    · rename_i b e2
      split at h
      · rename_i hT
        obtain ⟨t, ty, k⟩ := isi_ty S r1 e2 hT hK
        exact ⟨v, u, t, .type T, b, rfl, by rw [show u = .ty T from r2]; exact .ty _, ty, k, h.now S _ rfl⟩
      · exact h.elim
    · exact h.elim
  · exact h.elim
end
end Mm
namespace Mm
open PySem PySem.Spec PyProof.Rows L2 PySem.W
mutual
theorem like_alike : ∀ {x y : D} {n m : Nat}, okd n x = true → okd m y = true → likeD x y = alike (toPy x) (toPy y)
  | .non, y, _, _, _, hy => by cases y <;> first | (simp [okd] at hy; done) | simp [likeD, toPy, alike]
  | .bl _, y, _, _, _, hy => by cases y <;> first | (simp [okd] at hy; done) | simp [likeD, toPy, alike]
  | .int _, y, _, _, _, hy => by cases y <;> first | (simp [okd] at hy; done) | simp [likeD, toPy, alike]
  | .str _, y, _, _, _, hy => by cases y <;> first | (simp [okd] at hy; done) | simp [likeD, toPy, alike]
  | .t xs, y, n, m, hx, hy => by
    cases y <;> first | (simp [okd] at hy; done) | skip
    all_goals first | (simp [likeD, toPy, alike]; done) | skip
    all_goals
      unfold okd at hx hy
      simp only [likeD, toPy, alike]
      exact likeL_alike hx hy
  | .st xs, y, n, m, hx, hy => by
    cases y <;> first | (simp [okd] at hy; done) | skip
    all_goals first | (simp [likeD, toPy, alike]; done) | skip
    all_goals
      unfold okd at hx hy
      simp only [likeD, toPy, alike]
      exact likeL_alike hx hy
  | .l xs, y, n, m, hx, hy => by
    cases y <;> first | (simp [okd] at hy; done) | skip
    all_goals first | (simp [likeD, toPy, alike]; done) | skip
    all_goals
      unfold okd at hx hy
      simp only [likeD, toPy, alike]
      exact likeL_alike hx hy
  | .dk _ _, _, _, _, h, _ => by simp [okd] at h
  | .rt _, _, _, _, h, _ => by simp [okd] at h
  | .rl _, _, _, _, h, _ => by simp [okd] at h
  | .loc _, _, _, _, h, _ => by simp [okd] at h
  | .g _, _, _, _, h, _ => by simp [okd] at h
  | .ty _, _, _, _, h, _ => by simp [okd] at h
theorem likeL_alike : ∀ {xs ys : List D} {n m : Nat}, okL n xs = true → okL m ys = true → likeL xs ys = alikeAll (toPyL xs) (toPyL ys)
  | [], ys, _, _, _, _ => by cases ys <;> simp [likeL, toPyL, alikeAll]
  | x :: xs, [], _, _, _, _ => by simp [likeL, toPyL, alikeAll]
  | x :: xs, y :: ys, 0, _, hx, _ => by simp [okL] at hx
  | x :: xs, y :: ys, _, 0, _, hy => by simp [okL] at hy
  | x :: xs, y :: ys, n + 1, m + 1, hx, hy => by
    unfold okL at hx hy
    obtain ⟨a1, a2⟩ := Bool.and_eq_true_iff.mp hx
    obtain ⟨b1, b2⟩ := Bool.and_eq_true_iff.mp hy
    simp only [likeL, toPyL, alikeAll]
    rw [like_alike (n := n) (m := m) a1 b1, likeL_alike a2 b2]
end
mutual
theorem dlt_data : ∀ {x y : D} {n m : Nat}, okd n x = true → okd m y = true → likeD x y = true → isNon x = false → dlt x y = dataLt (toPy x) (toPy y)
  | .non, y, _, _, _, _, _, h => by simp [isNon] at h
  | .bl a, y, _, _, _, _, hl, _ => by
    cases y <;> first | (simp [likeD] at hl; done) | skip
    rename_i b
    simp only [dlt, toPy, dataLt_bool]
    cases a <;> cases b <;> rfl
  | .int _, y, _, _, _, _, hl, _ => by
    cases y <;> first | (simp [likeD] at hl; done) | skip
    simp only [dlt, toPy, dataLt_int]
  | .str _, y, _, _, _, _, hl, _ => by
    cases y <;> first | (simp [likeD] at hl; done) | skip
    simp only [dlt, toPy, dataLt_str]
  | .t xs, y, n, m, hx, hy, hl, _ => by
    cases y <;> first | (simp [likeD] at hl; done) | skip
    all_goals
      unfold okd at hx hy
      simp only [likeD] at hl
      simp only [dlt, toPy, dataLt_tuple]
      exact dltL_data hx hy hl
  | .st xs, y, n, m, hx, hy, hl, _ => by
    cases y <;> first | (simp [likeD] at hl; done) | skip
    all_goals
      unfold okd at hx hy
      simp only [likeD] at hl
      simp only [dlt, toPy, dataLt_tuple]
      exact dltL_data hx hy hl
  | .l xs, y, n, m, hx, hy, hl, _ => by
    cases y <;> first | (simp [likeD] at hl; done) | skip
    unfold okd at hx hy
    simp only [likeD] at hl
    simp only [dlt, toPy, dataLt_list]
    exact dltL_data hx hy hl
  | .dk _ _, _, _, _, h, _, _, _ => by simp [okd] at h
  | .rt _, _, _, _, h, _, _, _ => by simp [okd] at h
  | .rl _, _, _, _, h, _, _, _ => by simp [okd] at h
  | .loc _, _, _, _, h, _, _, _ => by simp [okd] at h
  | .g _, _, _, _, h, _, _, _ => by simp [okd] at h
  | .ty _, _, _, _, h, _, _, _ => by simp [okd] at h
theorem dltL_data : ∀ {xs ys : List D} {n m : Nat}, okL n xs = true → okL m ys = true → likeL xs ys = true → dltL xs ys = lexLt itemOrd (keyToksAll (toPyL xs)) (keyToksAll (toPyL ys))
  | [], [], _, _, _, _, _ => by rfl
  | [], y :: ys, _, _, _, _, _ => by
    simp only [dltL, toPyL, keyToksAll]
    rfl
  | x :: xs, [], _, _, _, _, _ => by
    simp only [dltL, toPyL, keyToksAll]
    rfl
  | x :: xs, y :: ys, 0, _, hx, _, _ => by simp [okL] at hx
  | x :: xs, y :: ys, _, 0, _, hy, _ => by simp [okL] at hy
  | x :: xs, y :: ys, n + 1, m + 1, hx, hy, hl => by
    unfold okL at hx hy
    obtain ⟨a1, a2⟩ := Bool.and_eq_true_iff.mp hx
    obtain ⟨b1, b2⟩ := Bool.and_eq_true_iff.mp hy
    simp only [likeL] at hl
    obtain ⟨c1, c2⟩ := Bool.and_eq_true_iff.mp hl
    have al : alike (toPy x) (toPy y) = true := by rw [← like_alike (n := n) (m := m) a1 b1]; exact c1
    simp only [dltL, toPyL]
    rw [deq_eqv (n := n) (m := m) a1 b1]
    cases e : PyData.eqv (toPy x) (toPy y) with
    | true => rw [if_pos rfl, dataLt_all_yes al e, dltL_data a2 b2 c2]
    | false =>
      have hn : isNon x = false := by
        cases x <;> first | rfl | skip
        cases y <;> first | (simp [likeD] at c1; done) | skip
        simp [toPy, PyData.eqv] at e
      rw [if_neg Bool.false_ne_true, dataLt_all_no al e, dlt_data (n := n) (m := m) a1 b1 c1 hn]
end
theorem nonN {d : D} {n : Nat} (h : isNon d = false) (o : okd n d = true) : toPy d ≠ .none := by
  cases d <;> first | (simp [isNon] at h; done) | (simp [okd] at o; done) | (simp [toPy]; done)
section
variable {c : Ct} {X : Cx}
theorem cmp_parts {x y : D} (h : cmpOk x y = true) : okd 60 x = true ∧ okd 60 y = true ∧ likeD x y = true ∧ isNon x = false := by
  unfold cmpOk at h
  simp only [Bool.and_eq_true, Bool.not_eq_true'] at h
  exact ⟨h.1.1.1, h.1.1.2, h.1.2, h.2⟩
theorem minOk_parts {ds : List D} (h : minOk ds = true) : ∀ x ∈ ds, okd 60 x = true ∧ isNon x = false ∧ ∀ y ∈ ds, likeD x y = true := fun x hx => by
  have h1 := List.all_eq_true.mp h x hx
  simp only [Bool.and_eq_true, Bool.not_eq_true'] at h1
  exact ⟨h1.1.1, h1.1.2, fun y hy => List.all_eq_true.mp h1.2 y hy⟩
theorem toPyL_map : ∀ ds : List D, toPyL ds = ds.map toPy
  | [] => rfl
  | d :: ds => by rw [toPyL, toPyL_map ds, List.map_cons]
theorem alikeAll_of {ds : List D} (h : minOk ds = true) : AlikeAll (toPyL ds) := by
  rw [toPyL_map]
  refine ⟨fun x hx y hy => ?_, fun x hx => ?_⟩
  · obtain ⟨a, ha, rfl⟩ := List.mem_map.mp hx
    obtain ⟨b, hb, rfl⟩ := List.mem_map.mp hy
    obtain ⟨a1, a2, a3⟩ := minOk_parts h a ha
    obtain ⟨b1, _, _⟩ := minOk_parts h b hb
    rw [← like_alike a1 b1]
    exact a3 b hb
  · obtain ⟨a, ha, rfl⟩ := List.mem_map.mp hx
    obtain ⟨a1, a2, _⟩ := minOk_parts h a ha
    exact nonN a2 a1
theorem okL_of_all : ∀ {ds : List D}, (∀ x ∈ ds, okd 60 x = true) → okL 61 ds = true
  | [], _ => rfl
  | d :: ds, h => by
    show (okd 60 d && okL 61 ds) = true
    rw [h d List.mem_cons_self, okL_of_all fun x hx => h x (List.mem_cons_of_mem _ hx)]
    rfl
theorem minOk_okL {ds : List D} (h : minOk ds = true) : okL 61 ds = true := okL_of_all fun x hx => (minOk_parts h x hx).1
theorem leastD_argBest {x : D} {xs : List D} (h : minOk (x :: xs) = true) : leastD x xs = (x :: xs).getD (argBest (fun i j => dataLt ((toPyL (x :: xs)).getD i .none) ((toPyL (x :: xs)).getD j .none)) xs.length) .non ∧
    argBest (fun i j => dataLt ((toPyL (x :: xs)).getD i .none) ((toPyL (x :: xs)).getD j .none)) xs.length ≤ xs.length := by
  have key : ∀ i j, i ≤ xs.length → j ≤ xs.length → dataLt ((toPyL (x :: xs)).getD i .none) ((toPyL (x :: xs)).getD j .none) = dlt ((x :: xs).getD i .non) ((x :: xs).getD j .non) := fun i j hi hj => by
    have at_ : ∀ i, i ≤ xs.length → (toPyL (x :: xs)).getD i .none = toPy ((x :: xs).getD i .non) ∧ (x :: xs).getD i .non ∈ x :: xs := fun i hi => by
      have hl : i < (x :: xs).length := by simp; omega
      rw [toPyL_map, List.getD_eq_getElem?_getD, List.getD_eq_getElem?_getD, List.getElem?_map, List.getElem?_eq_getElem hl]
      exact ⟨rfl, List.getElem_mem hl⟩
    obtain ⟨e1, m1⟩ := at_ i hi
    obtain ⟨e2, m2⟩ := at_ j hj
    obtain ⟨a1, a2, a3⟩ := minOk_parts h _ m1
    obtain ⟨b1, _, _⟩ := minOk_parts h _ m2
    rw [e1, e2, dlt_data a1 b1 (a3 _ m2) a2]
  have cong : ∀ k, k ≤ xs.length → argBest (fun i j => dataLt ((toPyL (x :: xs)).getD i .none) ((toPyL (x :: xs)).getD j .none)) k = argBest (fun i j => dlt ((x :: xs).getD i .non) ((x :: xs).getD j .non)) k := by
    intro k
    induction k with
    | zero => intro _; rfl
    | succ k ih =>
      intro hk
      have hb := (argBest_fold dlt D.non x xs k (Nat.le_of_succ_le hk)).1
      unfold argBest
      rw [ih (Nat.le_of_succ_le hk), key (k + 1) _ hk (by omega)]
  obtain ⟨f1, f2⟩ := argBest_fold dlt D.non x xs xs.length (Nat.le_refl _)
  rw [cong _ (Nat.le_refl _)]
  refine ⟨?_, f1⟩
  rw [f2, List.take_length]
  rfl
/-- which one is the least -/
def bestI (ds : List PyData) : Nat := argBest (fun i j => dataLt (ds.getD i .none) (ds.getD j .none)) (ds.length - 1)
theorem dpAll_reads {pins : List (Addr × Obj)} {σ : L2.St} {H : Hp} {s : Shared} (I : L2.Inv X pins σ H s) : ∀ {ds : List PyData} {vs : List V} {us : List Value}, DpAll X.K H vs ds → Vals vs us → ∃ as, ReadsAll s.heap us ds as
  | [], _, _, h, r => by
    cases h
    cases r
    exact ⟨_, .nil⟩
  | d :: ds, _, _, h, r => by
    cases h with
    | cons h1 h2 =>
      cases r with
      | cons r1 r2 =>
        obtain ⟨as, q1⟩ := Dp.reads I d _ _ h1 r1
        obtain ⟨bs, q2⟩ := dpAll_reads I h2 r2
        exact ⟨_, .cons q1 q2⟩
/-- the values of a dict, one by one -/
def tMinV (K : PySem.W.Frag) (ta : TE) : TE := fun σ H Q => ta σ H fun x H1 => ∃ a kvs ds, x = .ref a ∧ H1 a = some (.dK kvs) ∧ DpAll K H1 (kvs.map (·.2)) ds ∧ AlikeAll ds ∧ 0 < ds.length ∧ PyData.depthAll ds ≤ 61 ∧ ∀ v, (kvs.map (·.2))[bestI ds]? = some v → Q v H1
theorem kv_vals : ∀ {kvs : List (L2.Key × V)} {vs : List (L2.Key × Value)}, KV kvs vs → Vals (kvs.map (·.2)) (vs.map (·.2))
  | _, _, .nil => .nil
  | _, _, .cons h t => .cons h.2 (kv_vals t)
theorem pe_minV {o : Expr} {to : TE} {p ap cp pos : Pos} (hc : X.calm = true) (hu : X.A.units + 64 < cLine) (hg : Gl X "min") (hm : X.mg "min" = none) (ho : PE X o to)
    (hbase : attributeBase o "values" X.env (eval o X.env) = eval o X.env := by rfl) (hline : (ap.endLine == cp.line) = true := by rfl)
    (na : starEach [Expr.Call (.Attribute o "values" ap) [] [] cp] X.env = (false, eval (.Call (.Attribute o "values" ap) [] [] cp) X.env) :: starEach [] X.env := by rfl) :
    PE X (.Call (.Name "min" p) [.Call (.Attribute o "values" ap) [] [] cp] [] pos) (tMinV X.K to) := by
  refine ⟨fun pins s σ H Q I h => ?_⟩
  refine Call_ (ld_blt (u := .builtin "min") I hg hm (by decide +kernel) ?_)
  refine PyProof.Rows.callWith_builtin1 (PyProof.Rows.args_cons ?_ na) rfl rfl
  refine wpAny_Call_method0_late hbase hline (thn (ho.run pins s σ H _ I h) fun u s1 ⟨x, H1, I1, r1, q1⟩ => ?_)
  obtain ⟨a, kvs, ds, rfl, ha, hd, al, h0, hz, q⟩ := q1
  cases r1
  obtain ⟨z, hsm, vs, rel, dd⟩ := dk_of I1.hok ha
  obtain ⟨od, eo, epo, e1, e2, e3⟩ := id dd
  refine ⟨"dict", "dict.values", PySem.F.plainAttrs_dict, PySem.F.slot_dict_values, PySem.F.type_dict_values, dd.typeIs, fun b eb => ?_, ?_⟩
  · cases eb
    exact ⟨od, e1, e2.2.1⟩
  refine Calls.callWith_builtin rfl (PySem.evalArgs_none ?_)
  refine call_meetsIn PySem.F.slot_dict_values dd.typeIs PySem.F.entry_dict_values (PySem.F.args_dict_values_1 _) (meets_dict_values (mixKind X.prog X.w) a hsm) ⟨⟨vs, dd⟩, ?_⟩
  refine PyProof.Rows.args_nil ?_
  -- the view stands at the heap's end
  have I2 : L2.Inv X pins σ H1 { s1 with heap := s1.heap.push { cls := .type "dict_values", data := .fields #[.ref a] } } := I1.kept (t' := s1.toks) fun b ob e => Heap.get?_push_of_some _ e
  generalize hs2 : ({ s1 with heap := s1.heap.push { cls := .type "dict_values", data := .fields #[.ref a] } } : Shared) = s2 at I2 ⊢
  have hv : s2.heap.IsValuesView s1.heap.objs.size a := by rw [← hs2]; exact ⟨_, Heap.get?_push_size _ rfl, rfl, rfl⟩
  obtain ⟨z2, hsm2, vs2, rel2, dd2⟩ := dk_of I2.hok ha
  obtain ⟨ep, hat⟩ := dd2.dictAt
  have rv := kv_vals rel2
  obtain ⟨as, hr⟩ := dpAll_reads I2 hd rv
  have hr' : ReadsAll s2.heap (vs2.map (·.2)).toArray.toList ds as := by simpa using hr
  have hn : vs2.length = ds.length := by have := readsAll_len hr'; simpa using this
  have hne : a ≠ s2.heap.objs.size := Nat.ne_of_lt hat.lt_size
  refine call_min_walkH (wpAny_pyIter_values (A := X.A.in1) hv hat ?_)
  generalize hs3 : ({ s2 with heap := s2.heap.push { cls := .type "dict_valueiterator", data := .fields #[.ref a, .int 0 0, .int vs2.length 0, .int ep 0] } } : Shared) = s3
  have hpu : s3 = { s2 with heap := s2.heap.push { cls := .type "dict_valueiterator", data := .fields #[.ref a, .int 0 0, .int vs2.length 0, .int ep 0] } } := hs3.symm
  have hit : s3.heap.IsValIter s2.heap.objs.size a 0 vs2.length ep := by rw [hpu]; exact ⟨_, Heap.get?_push_size _ rfl, rfl, rfl⟩
  have hk3 : ∀ b ob, s2.heap.get? b = some ob → s3.heap.get? b = some ob := fun b ob e => by rw [hpu]; exact Heap.get?_push_of_some _ e
  refine ⟨s2.heap.objs.size, [s2.heap.objs.size, a], [s2.heap.objs.size], _, vs2.length, _, _, s2.heap, (fun i j => dataLt (ds.getD i .none) (ds.getD j .none)), rfl, (Walks.dictValues (knd := mixKind X.prog X.w) (A := X.A.in1) (I.ok.hd hc) s2.heap.objs.size a hne vs2 ep).toS, ⟨hit, hat.at' fun ob e => hk3 a ob e⟩, fun b hb => ?_, by omega, fun b ob e hb => ?_, hk3, fun i j vi vj s' Q' E' hk hi hj hq => ?_, fun v s' hP m => ?_⟩
  · rw [hpu]
    show b < (s2.heap.push _).objs.size
    rw [Heap.size_push]
    rcases List.mem_cons.mp hb with rfl | hb
    · exact Nat.lt_succ_self _
    · rcases List.mem_cons.mp hb with rfl | hb
      · exact Nat.lt_succ_of_lt hat.lt_size
      · cases hb
  · exact absurd (Heap.lt_size e) ((List.mem_singleton.mp hb) ▸ Nat.lt_irrefl _)
  · obtain ⟨k1, hi1⟩ := hi
    obtain ⟨k2, hj1⟩ := hj
    exact cmpIn_lt (A := X.A.in1) hr' al (by show X.A.units + 1 + _ < _; omega) i j vi vj s' Q' E' hk (by simp [List.getElem?_map, hi1]) (by simp [List.getElem?_map, hj1]) hq
  · obtain ⟨h', tk, rfl, hk'⟩ := moved_old hpu rfl m
    obtain ⟨kk, hP1⟩ := hP
    rw [hn] at hP1
    have I4 : L2.Inv X pins σ H1 { s2 with heap := h', toks := tk } := I2.kept hk'
    have hP2 : (vs2.map (·.2))[bestI ds]? = some v := by rw [List.getElem?_map, show vs2[bestI ds]? = some (kk, v) from hP1]; rfl
    have hb : bestI ds < (kvs.map (·.2)).length := by
      rw [rv.length]
      exact (List.getElem?_eq_some_iff.mp hP2).1
    obtain ⟨w', e4, rw'⟩ := rv.get (List.getElem?_eq_getElem hb)
    rw [hP2] at e4
    cases e4
    exact ⟨_, H1, I4, rw', q _ (List.getElem?_eq_getElem hb)⟩
variable {W : WX}
theorem je_minV {o : Expr} {mo : M} {p ap cp pos : Pos} (hc : X.calm = true) (hu : X.A.units + 64 < cLine) (hg : Gl X "min") (hm : X.mg "min" = none) (ho : JE c X W o mo)
    (hbase : attributeBase o "values" X.env (eval o X.env) = eval o X.env := by rfl) (hline : (ap.endLine == cp.line) = true := by rfl)
    (na : starEach [Expr.Call (.Attribute o "values" ap) [] [] cp] X.env = (false, eval (.Call (.Attribute o "values" ap) [] [] cp) X.env) :: starEach [] X.env := by rfl) :
    JE c X W (.Call (.Name "min" p) [.Call (.Attribute o "values" ap) [] [] cp] [] pos) (eUn vMinV mo) := by
  obtain ⟨to, po, so⟩ := ho.ex
  refine ⟨_, pe_minV hc hu hg hm po hbase hline na, fun w fs hs σ Q S E h => ?_⟩
  refine so w fs hs σ _ S E (h.bind.imp fun d h1 w1 l1 S1 p1 v r => ?_)
  unfold vMinV at p1
  split at p1
  · rename_i x xs e
    split at p1
    · rename_i hmin
      obtain ⟨a, us, rfl, q, k1, rr⟩ := dictOf_at S1 e r
      have hl : (toPyL ((x :: xs).map (·.2))).length = xs.length + 1 := by rw [toPyL_map]; simp
      refine ⟨a, us, toPyL ((x :: xs).map (·.2)), rfl, q, Rps.dp S1.sub (minOk_okL hmin) rr, alikeAll_of hmin, by omega, by have := (okL_py (minOk_okL hmin)).2.1; omega, fun v ev => ?_⟩
      have hmin' : minOk (x.2 :: xs.map (·.2)) = true := hmin
      obtain ⟨b1, b2⟩ := leastD_argBest hmin'
      have eb : bestI (toPyL ((x :: xs).map (·.2))) = argBest (fun i j => dataLt ((toPyL (x.2 :: xs.map (·.2))).getD i .none) ((toPyL (x.2 :: xs.map (·.2))).getD j .none)) (xs.map (·.2)).length := by
        unfold bestI; rw [hl, List.length_map]; rfl
      rw [eb] at ev
      have hi : argBest (fun i j => dataLt ((toPyL (x.2 :: xs.map (·.2))).getD i .none) ((toPyL (x.2 :: xs.map (·.2))).getD j .none)) (xs.map (·.2)).length < (x.2 :: xs.map (·.2)).length := by rw [List.length_cons]; omega
      obtain ⟨v2, e3, r3⟩ := Rps.get (ds := x.2 :: xs.map (·.2)) rr (List.getElem?_eq_getElem hi)
      rw [ev] at e3
      cases e3
      refine p1.now S1 v ?_
      rw [b1, List.getD_eq_getElem?_getD, List.getElem?_eq_getElem hi]
      exact r3
    · exact p1.elim
  · exact p1.elim
end
end Mm
namespace Mm
open PySem PySem.Spec PyProof.Rows L2 PySem.W
section
variable {prog : Program} {w : World} {A : Around} {E : Value → Shared → Prop} {s : Shared}
theorem min_of_two {a b : Value} {Q : Value → Shared → Prop}
    (h : wpAny (model prog w) A.in1 (pyIter (.ref s.heap.objs.size)) (fun it s₂ => ∃ I fp wr G n P St H bt, it = .ref I ∧ WalksS prog w A.in1 I fp wr G n P St ∧ St 0 s₂ ∧ (∀ b ∈ fp, b < s₂.heap.objs.size) ∧ 0 < n ∧
      (∀ b o, H.get? b = some o → b ∉ wr) ∧ (∀ b o, H.get? b = some o → s₂.heap.get? b = some o) ∧ CmpIn prog w A.in1 .Lt H P bt ∧ ∀ v s', P (argBest bt (n - 1)) v → Moved wr G s₂ s' → Q v s') E
      { s with heap := s.heap.push { cls := .type "tuple", data := .seq #[a, b] } }) : wpAny (model prog w) A (call (.builtin "min") [a, b]) Q E s := by
  have nm : (toString "min" ++ toString ".loop" : String) = "min.loop" := by decide
  refine call_function_tree F.kind_min F.plain_min F.entry_min (F.args_min2 a b) ?_
  show wpAny _ A.in1 (Builtin.Builtins.bindParams "min" ["key", "default"] 0 ⟨[], []⟩ >>= _) _ _ s
  refine wpAny_bind ?_
  refine wpAny_of_eq (show Builtin.Builtins.bindParams "min" ["key", "default"] 0 ⟨[], []⟩ = pure [none, none] from rfl) ?_
  show wpAny _ A.in1 (newTuple [a, b] >>= _) _ _ s
  refine wpAny_bind (wpAny_newObj_type (wpAny_bind (wpAny_mono h (fun it s₂ h₂ => ?_) fun _ _ e => e)))
  obtain ⟨I, fp, wr, G, n, P, St, H, bt, rfl, W, hst, hfp, hn, hw, hkeep, hcmp, hQ⟩ := h₂
  refine wpAny_bind (wpAny_newObj_type ?_)
  have out : s₂.heap.objs.size ∉ fp := fun hm => absurd (hfp _ hm) (Nat.lt_irrefl _)
  rw [nm]
  refine wpAny_pure ⟨plainId_quiet F.plain_min_loop _, codeAny_min_loop_firstH W H hw bt hcmp s₂.heap.objs.size out (fresh_in hkeep) _ hn (fun b o e => Heap.get?_push_of_some _ (hkeep b o e)) ?_ (Heap.get?_push_size _ rfl) ?_⟩
  · exact W.frame 0 s₂ _ s₂.toks hst (Nat.le_refl _) fun b _ o e => Heap.get?_push_of_some _ e
  · exact fun v s' hP hm => hQ v s' hP (Moved.drop_new (tk := s₂.toks) hm (Nat.le_refl _))
end
mutual
theorem like_refl : ∀ {x : D} {n : Nat}, okd n x = true → likeD x x = true
  | .non, _, _ => rfl
  | .bl _, _, _ => rfl
  | .int _, _, _ => rfl
  | .str _, _, _ => rfl
  | .t xs, n, h => by unfold okd at h; simp only [likeD]; exact likeL_refl h
  | .st xs, n, h => by unfold okd at h; simp only [likeD]; exact likeL_refl h
  | .l xs, n, h => by unfold okd at h; simp only [likeD]; exact likeL_refl h
  | .dk _ _, _, h => by simp [okd] at h
  | .rt _, _, h => by simp [okd] at h
  | .rl _, _, h => by simp [okd] at h
  | .loc _, _, h => by simp [okd] at h
  | .g _, _, h => by simp [okd] at h
  | .ty _, _, h => by simp [okd] at h
theorem likeL_refl : ∀ {xs : List D} {n : Nat}, okL n xs = true → likeL xs xs = true
  | [], _, _ => by simp [likeL]
  | x :: xs, 0, h => by simp [okL] at h
  | x :: xs, n + 1, h => by
    unfold okL at h
    obtain ⟨h1, h2⟩ := Bool.and_eq_true_iff.mp h
    simp only [likeL]
    rw [like_refl (n := n) h1, likeL_refl h2]; rfl
end
section
variable {c : Ct} {X : Cx}
def rMin2 (K : PySem.W.Frag) : List V → Hp → VK → Prop := fun us H Q => ∃ x y d e, us = [x, y] ∧ Dp K H x d ∧ Dp K H y e ∧ AlikeAll [d, e] ∧ PyData.depthAll [d, e] ≤ 61 ∧ Q (if dataLt e d = true then y else x) H
theorem call_min2D (hc : X.calm = true) (hu : X.A.units + 64 < cLine) : CallR X (.builtin "min") (rMin2 X.K) := by
  intro pins s σ H us ws Q I r h
  obtain ⟨x, y, d, e, rfl, hd, he, al, hz, q⟩ := h
  obtain ⟨u, v, rfl, rx, ry⟩ := vals2 r
  -- the pair stands at the heap's end
  have I2 : L2.Inv X pins σ H { s with heap := s.heap.push { cls := .type "tuple", data := .seq #[u, v] } } := I.kept (t' := s.toks) fun b ob q => Heap.get?_push_of_some _ q
  refine min_of_two ?_
  generalize hs2 : ({ s with heap := s.heap.push { cls := .type "tuple", data := .seq #[u, v] } } : Shared) = s2 at I2 ⊢
  have hT : s2.heap.IsTuple s.heap.objs.size #[u, v] := by rw [← hs2]; exact ⟨_, Heap.get?_push_size _ rfl, rfl, 0, rfl⟩
  obtain ⟨as, hr⟩ := dpAll_reads (vs := [x, y]) (us := [u, v]) I2 (.cons hd (.cons he .nil)) (.cons rx (.cons ry .nil))
  have hr' : ReadsAll s2.heap (#[u, v] : Array Value).toList [d, e] as := hr
  refine iter_tupleW (A := X.A.in1) (I.ok.hd hc) hT fun s₂ ee W st hfp hw hk => ⟨_, _, _, _, _, _, _, s2.heap, _, rfl, W, st, hfp, Nat.zero_lt_succ 1, hw, hk, cmpIn_lt (A := X.A.in1) hr' al (by show X.A.units + 1 + _ < _; omega), fun z s' hP m => ?_⟩
  obtain ⟨h', tk, rfl, hk'⟩ := moved_old ee rfl m
  have I4 : L2.Inv X pins σ H { s2 with heap := h', toks := tk } := I2.kept hk'
  have eb : argBest (fun i j => dataLt ([d, e].getD i PyData.none) ([d, e].getD j PyData.none)) ((#[u, v] : Array Value).size - 1) = if dataLt e d = true then 1 else 0 := by
    show (if dataLt e d = true then 1 else 0) = _
    rfl
  rw [eb] at hP
  by_cases hb : dataLt e d = true
  · rw [if_pos hb] at hP q
    have : v = z := by simpa using hP
    subst this
    exact ⟨y, H, I4, ry, q⟩
  · rw [if_neg hb] at hP q
    have : u = z := by simpa using hP
    subst this
    exact ⟨x, H, I4, rx, q⟩
theorem jc_min2 (hc : X.calm = true) (hu : X.A.units + 64 < cLine) : JC c X (.builtin "min") vMin2 := by
  refine ⟨_, call_min2D hc hu, fun w hs ds vs Q E S r h => ?_⟩
  unfold vMin2 at h
  cases e : two2 ds with
  | none => simp only [e] at h; exact h.elim
  | some p =>
    obtain ⟨a, b⟩ := p
    simp only [e] at h
    obtain rfl := two2_some e
    obtain ⟨v, u, rfl, r1, r2⟩ := rps2 r
    split at h
    · rename_i hok
      obtain ⟨c1, c2⟩ := Bool.and_eq_true_iff.mp hok
      obtain ⟨o1, o2, l1, n1⟩ := cmp_parts c1
      obtain ⟨_, _, l2, n2⟩ := cmp_parts c2
      have al : AlikeAll [toPy a, toPy b] := by
        have e1 : alike (toPy a) (toPy b) = true := by rw [← like_alike o1 o2]; exact l1
        have e2 : alike (toPy b) (toPy a) = true := by rw [← like_alike o2 o1]; exact l2
        have e3 : ∀ {x : D}, okd 60 x = true → isNon x = false → alike (toPy x) (toPy x) = true := fun {x} ox nx => by
          rw [← like_alike ox ox]
          exact like_refl ox
        refine ⟨fun x hx y hy => ?_, fun x hx => ?_⟩
        · rcases List.mem_cons.mp hx with rfl | hx
          · rcases List.mem_cons.mp hy with rfl | hy
            · exact e3 o1 n1
            · rw [List.mem_singleton.mp hy]; exact e1
          · rw [List.mem_singleton.mp hx]
            rcases List.mem_cons.mp hy with rfl | hy
            · exact e2
            · rw [List.mem_singleton.mp hy]; exact e3 o2 n2
        · rcases List.mem_cons.mp hx with rfl | hx
          · exact nonN n1 o1
          · rw [List.mem_singleton.mp hx]; exact nonN n2 o2
      have d1 := (okd_py o1).2
      have d2 := (okd_py o2).2
      refine ⟨v, u, toPy a, toPy b, rfl, Rp.dp S.sub o1 r1, Rp.dp S.sub o2 r2, al, by simp only [PyData.depthAll]; omega, ?_⟩
      rw [← dlt_data o2 o1 l2 n2]
      split
      · rename_i hb
        rw [if_pos hb] at h
        exact h.now S _ r2
      · rename_i hb
        rw [if_neg hb] at h
        exact h.now S _ r1
    · exact h.elim
end
end Mm
namespace Mm
open PySem PySem.Spec PyProof.Rows L2 PySem.W
section
variable {c : Ct} {X : Cx}
theorem intsOf_rps {ρ : List Addr} {F : Hp} : ∀ {ds : List D} {ns : List Int} {vs : List V}, intsOf ds = some ns → Rps c ρ F ds vs → vs = ns.map V.int
  | [], ns, vs, h, r => by unfold Rps at r; subst r; cases h; rfl
  | d :: ds, ns, vs, h, r => by
    unfold Rps at r
    obtain ⟨v, r', rfl, r1, r2⟩ := r
    cases d <;> first | (simp [intsOf] at h; done) | skip
    rename_i i
    unfold intsOf at h
    cases e : intsOf ds with
    | none => rw [e] at h; cases h
    | some ns' =>
      rw [e] at h
      cases h
      rw [intsOf_rps e r2, show v = .int i from r1]
      rfl
theorem ints_rps {ρ : List Addr} {F : Hp} : ∀ ns : List Int, Rps c ρ F (ns.map D.int) (ns.map V.int)
  | [] => Rps.nil
  | _ :: r => Rps.cons rfl (ints_rps r)
theorem CallR.or {f : Value} {r r' : List V → Hp → VK → Prop} (h : CallR X f r) (h' : CallR X f r') : CallR X f (fun xs H Q => r xs H Q ∨ r' xs H Q) := by
  intro pins s σ H xs us Q I rv q
  rcases q with q | q
  · exact h pins s σ H xs us Q I rv q
  · exact h' pins s σ H xs us Q I rv q
variable {W : WX}
theorem je_meth {T id : String} {name : Str} {o e : Expr} {es : List Expr} {mo : M} {mas : MA} {op : D → List D → Hs → R D} {ty : D → Hs → Bool} {apos cpos : Pos} (pa : PlainAttrs T) (slot : Slot T name id) (hty : typeOf (.builtin id) = pure (.type "method_descriptor")) (hm : JM c X T id op)
    (ht : ∀ (w : Wd) (hs : Hs) (x : D) (v : V), SR c w hs → Rp c w.ρ w.F x v → ty x hs = true → tyV X.K T v w.H) (ho : JE c X W o mo) (ha : JA c X W (e :: es) mas)
    (hbase : attributeBase o name X.env (eval o X.env) = eval o X.env := by rfl)
    (hfew : ((backTo cpos (starEach (e :: es) X.env)).all (fun x => !x.1) && (backToKw cpos (keywordEach [] X.env)).all (fun x => x.1.isSome)
      && decide ((e :: es).length + ([] : List Keyword).length + (if ([] : List Keyword).isEmpty then 0 else 1) < 30)) = true := by rfl)
    (hline : (apos.endLine == cpos.line) = true := by rfl) (hs : starEach (e :: es) X.env = (false, eval e X.env) :: starEach es X.env := by rfl) (hplain : (backTo cpos (starEach es X.env)).any (·.1) = false := by rfl) :
    JE c X W (.Call (.Attribute o name apos) (e :: es) [] cpos) (eMeth ty op mo mas) := by
  obtain ⟨r, pr, sr⟩ := hm.ex; obtain ⟨to, po, so⟩ := ho.ex; obtain ⟨ta, pt, sa⟩ := ha.ex
  refine ⟨_, pe_bm pa slot hty pr po pt hbase hfew hline hs hplain, fun w fs hs σ Q S E h => ?_⟩
  refine so w fs hs σ _ S E (h.bind.imp fun x h1 w1 l1 S1 p1 v1 r1 => ?_)
  split at p1
  · rename_i hT
    refine ⟨ht w1 h1 x v1 S1 r1 hT, sa w1 fs h1 σ _ S1 (E.le l1) (p1.bind.imp fun ds h2 w2 l2 S2 p2 vs rs => ?_)⟩
    exact sr w2 h2 x ds v1 vs Q _ S2 (r1.le l2) rs p2
  · exact p1.elim
theorem isLst_ty (w : Wd) (hs : Hs) (x : D) (v : V) (S : SR c w hs) (r : Rp c w.ρ w.F x v) (h : isLst x hs = true) : tyV X.K "list" v w.H := by
  have : ∃ es, listOf x hs = some es := by
    cases x with
    | l ds => exact ⟨ds, rfl⟩
    | loc n =>
      unfold isLst at h
      unfold listOf
      cases e : hs[n]? with
      | none => simp [e] at h
      | some o =>
        cases o with
        | lst ds => exact ⟨ds, by simp only [e]⟩
        | _ => simp [e] at h
    | _ => simp [isLst] at h
  obtain ⟨es, e⟩ := this
  obtain ⟨a, vs, rfl, q, _⟩ := listOf_at S e r
  exact .inl ⟨rfl, vs, SqL.of q⟩
theorem isDct_ty (w : Wd) (hs : Hs) (x : D) (v : V) (S : SR c w hs) (r : Rp c w.ρ w.F x v) (h : isDct x hs = true) : tyV X.K "dict" v w.H := by
  cases x with
  | dk ks ds =>
    unfold Rp at r
    obtain ⟨a, us, rfl, q, _⟩ := r
    exact .inr (.inr (.inl ⟨rfl, .inl ⟨us, S.sub _ _ q⟩⟩))
  | loc n =>
    unfold Rp at r
    obtain ⟨a, rfl, q⟩ := r
    unfold isDct at h
    cases e : hs[n]? with
    | none => simp [e] at h
    | some o =>
      cases o with
      | dk kvs =>
        obtain ⟨ho, e1, us, rfl, _⟩ := loc_at S q e
        exact .inr (.inr (.inl ⟨rfl, .inl ⟨us, e1⟩⟩))
      | dt kvs =>
        obtain ⟨ho, e1, us, rfl, _⟩ := loc_at S q e
        exact .inr (.inr (.inl ⟨rfl, .inr ⟨us, e1⟩⟩))
      | _ => simp [e] at h
  | _ => simp [isDct] at h
/-- a tracked list at hand -/
theorem lst_of {w : Wd} {hs : Hs} {n : Nat} {v : V} {es : List D} (S : SR c w hs) (r : Rp c w.ρ w.F (.loc n) v) (e : hs[n]? = some (.lst es)) : ∃ a vs, v = .ref a ∧ w.ρ[n]? = some a ∧ w.H a = some (.lst vs) ∧ Rps c w.ρ w.F es vs := by
  unfold Rp at r
  obtain ⟨a, rfl, q⟩ := r
  obtain ⟨ho, e1, vs, rfl, rr⟩ := loc_at S q e
  exact ⟨a, vs, rfl, q, e1, rr⟩
theorem dk_of' {w : Wd} {hs : Hs} {n : Nat} {v : V} {es : List (Mm.Key × D)} (S : SR c w hs) (r : Rp c w.ρ w.F (.loc n) v) (e : hs[n]? = some (.dk es)) : ∃ a vs, v = .ref a ∧ w.ρ[n]? = some a ∧ w.H a = some (.dK vs) ∧ KR c w.ρ w.F es vs := by
  unfold Rp at r
  obtain ⟨a, rfl, q⟩ := r
  obtain ⟨ho, e1, vs, rfl, k1, rr⟩ := loc_at S q e
  exact ⟨a, vs, rfl, q, e1, k1, rr⟩
/-- behind a change of a tracked list -/
theorem put_lst {w : Wd} {hs : Hs} {n : Nat} {a : Addr} {es es' : List D} {vs' : List V} {d : D} {v : V} {Q : VK} {E : XK} (S : SR c w hs) (q : w.ρ[n]? = some a) (e : hs[n]? = some (.lst es)) (r : Rps c w.ρ w.F es' vs') (rd : Rp c w.ρ w.F d v) (h : Post c w (.ok d (hs.set n (.lst es'))) Q E) : Q v (upd w.H a (.lst vs')) := by
  obtain ⟨l, S'⟩ := S.put (o := .lst es') (ho := .lst vs') q ⟨_, e, by simp⟩ ⟨vs', rfl, r⟩
  exact h _ l S' v (rd.le l)
theorem put_dk {w : Wd} {hs : Hs} {n : Nat} {a : Addr} {es es' : List (Mm.Key × D)} {vs' : List (L2.Key × V)} {d : D} {v : V} {Q : VK} {E : XK} (S : SR c w hs) (q : w.ρ[n]? = some a) (e : hs[n]? = some (.dk es)) (r : KR c w.ρ w.F es' vs') (rd : Rp c w.ρ w.F d v) (h : Post c w (.ok d (hs.set n (.dk es'))) Q E) : Q v (upd w.H a (.dK vs')) := by
  obtain ⟨l, S'⟩ := S.put (o := .dk es') (ho := .dK vs') q ⟨_, e, by simp⟩ ⟨vs', rfl, r.1, r.2⟩
  exact h _ l S' v (rd.le l)
theorem jm_append : JM c X "list" "list.append" mAppend := by
  refine ⟨_, mt_append, fun w hs x ds vx vs Q E S rx r h => ?_⟩
  unfold mAppend at h
  split at h
  · rename_i n d e
    obtain rfl := one1_some e
    obtain ⟨v, rfl, rd⟩ := rps1 r
    split at h
    · rename_i es e2
      split at h
      · rename_i hl
        obtain ⟨a, us, rfl, q, e3, rr⟩ := lst_of S rx e2
        exact ⟨a, us, v, rfl, rfl, e3, by rw [rr.length]; exact sz_lt hl, put_lst S q e2 (rr.append (Rps.one rd)) (d := .non) rfl h⟩
      · exact h.elim
    · exact h.elim
  · exact h.elim
theorem eraseIdx_rps {ρ : List Addr} {F : Hp} : ∀ {ds : List D} {vs : List V} (k : Nat), Rps c ρ F ds vs → Rps c ρ F (ds.eraseIdx k) (vs.eraseIdx k)
  | [], vs, k, r => by unfold Rps at r; subst r; simp; exact Rps.nil
  | d :: ds, vs, 0, r => by unfold Rps at r; obtain ⟨v, r', rfl, r1, r2⟩ := r; exact r2
  | d :: ds, vs, k + 1, r => by
    unfold Rps at r
    obtain ⟨v, r', rfl, r1, r2⟩ := r
    exact Rps.cons r1 (eraseIdx_rps k r2)
theorem jm_popAt : JM c X "list" "list.pop" mPopAt := by
  refine ⟨_, mt_popAt, fun w hs x ds vx vs Q E S rx r h => ?_⟩
  unfold mPopAt at h
  split at h
  · rename_i n i e
    obtain rfl := int1_some e
    obtain ⟨v, rfl, rd⟩ := rps1 r
    split at h
    · rename_i es e2
      split at h
      · rename_i hi
        split at h
        · rename_i d e3
          obtain ⟨a, us, rfl, q, e4, rr⟩ := lst_of S rx e2
          obtain ⟨y, e5, r5⟩ := rr.get e3
          have hlt : i.toNat < us.length := (List.getElem?_eq_some_iff.mp e5).1
          exact ⟨a, us, i, i.toNat, y, rfl, by rw [show v = .int i from rd], e4, by omega, by omega, seqIndex_of hi.1 (by omega), e5, put_lst S q e2 (eraseIdx_rps _ rr) r5 h⟩
        · exact h.elim
      · exact h.elim
    · exact h.elim
  · exact h.elim
/-- d.pop(k) -/
def rPopK : V → List V → Hp → VK → Prop := fun x vs H Q => ∃ a kvs k v, x = .ref a ∧ vs = [kV k] ∧ H a = some (.dK kvs) ∧ valV kvs k = some v ∧ Q v (upd H a (.dK (dropK kvs k)))
theorem mt_popK : MtR X "dict.pop" rPopK := by
  intro pins s σ H x vs v us Q I rx r h
  obtain ⟨a, kvs, k, z, rfl, rfl, ha, hv, q⟩ := h
  cases rx
  obtain ⟨u, rfl, ru⟩ := vals1 r
  exact d_pop I ha ru hv (.inl rfl) fun w' s' I' rw' => ⟨z, _, I', rw', q⟩
theorem jm_popK : JM c X "dict" "dict.pop" mPopK := by
  refine ⟨_, mt_popK, fun w hs x ds vx vs Q E S rx r h => ?_⟩
  unfold mPopK at h
  split at h
  · rename_i n k e
    cases e1 : one1 ds with
    | none => rw [e1] at e; cases e
    | some d =>
      obtain rfl := one1_some e1
      rw [e1] at e
      have e0 : keyOf d = some k := e
      obtain ⟨v, rfl, rd⟩ := rps1 r
      split at h
      · rename_i kvs e2
        split at h
        · rename_i y e3
          obtain ⟨a, us, rfl, q, e4, rr⟩ := dk_of' S rx e2
          have lk := rr.look k
          rw [e3] at lk
          obtain ⟨vy, e5, ry⟩ := lk
          exact ⟨a, us, k, vy, rfl, by rw [key_at e0 rd], e4, e5, put_dk S q e2 (rr.drop k) ry h⟩
        · exact h.elim
      · exact h.elim
  · exact h.elim
def rGet2 : V → List V → Hp → VK → Prop := fun x vs H Q => ∃ a k z o, x = .ref a ∧ vs = [k, z] ∧ DGet H a k o ∧ Q (o.getD z) H
theorem mt_get2 (hu : X.A.units + 1 < cLine) : MtR X "dict.get" rGet2 := by
  intro pins s σ H x vs v us Q I rx r h
  obtain ⟨a, k, z, o, rfl, rfl, g, q⟩ := h
  cases rx
  obtain ⟨u, u2, rfl, r1, r2⟩ := vals2 r
  exact d_get2 hu I g r1 r2 fun w' s' I' rw' => ⟨_, H, I', rw', q⟩
theorem jm_get2 (hu : X.A.units + 1 < cLine) : JM c X "dict" "dict.get" mGet2 := by
  refine ⟨_, mt_get2 hu, fun w hs x ds vx vs Q E S rx r h => ?_⟩
  unfold mGet2 at h
  split at h
  · rename_i k z e
    obtain rfl := two2_some e
    obtain ⟨v, u, rfl, r1, r2⟩ := rps2 r
    split at h
    · rename_i o e2
      obtain ⟨a, ov, rfl, g, z1⟩ := dlook_at S e2 rx r1
      refine ⟨a, v, u, ov, rfl, rfl, g, ?_⟩
      cases o with
      | none =>
        obtain rfl : ov = none := z1
        exact h.now S _ r2
      | some d =>
        obtain ⟨vd, rfl, rd⟩ := z1
        exact h.now S _ rd
    · exact h.elim
  · exact h.elim
end
end Mm
namespace Mm
open PySem PySem.Spec PyProof.Rows L2 PySem.W
section
variable {c : Ct} {X : Cx} {W : WX} {a e : Expr} {es : List Expr} {ma : M} {mas : MA}
theorem set_rps {ρ : List Addr} {F : Hp} {d : D} {v : V} (rd : Rp c ρ F d v) : ∀ {ds : List D} {vs : List V} (k : Nat), Rps c ρ F ds vs → Rps c ρ F (ds.set k d) (vs.set k v)
  | [], vs, k, r => by unfold Rps at r; subst r; simp; exact Rps.nil
  | d :: ds, vs, 0, r => by unfold Rps at r; obtain ⟨v, r', rfl, r1, r2⟩ := r; exact Rps.cons rd r2
  | d :: ds, vs, k + 1, r => by
    unfold Rps at r
    obtain ⟨v, r', rfl, r1, r2⟩ := r
    exact Rps.cons r1 (set_rps rd k r2)
theorem ixN_l2 {n : Nat} {i : Int} {j : Nat} (h : Mm.ixN n i = some j) : L2.ixN n i = some j := by
  unfold Mm.ixN at h
  unfold L2.ixN
  by_cases h0 : 0 ≤ i
  · rw [if_pos h0] at h ⊢; exact h
  · rw [if_neg h0] at h ⊢
    by_cases h1 : 0 ≤ i + (n : Int)
    · rw [if_pos h1] at h; rw [if_pos (by omega)]; exact h
    · rw [if_neg h1] at h; cases h
theorem PSet.or {r r' : TSet} (h : PSet X r) (h' : PSet X r') : PSet X (fun o i v H Q => r o i v H Q ∨ r' o i v H Q) := by
  intro pins s σ H o i v ov iv u Q I ro ri rv q
  rcases q with q | q
  · exact h pins s σ H o i v ov iv u Q I ro ri rv q
  · exact h' pins s σ H o i v ov iv u Q I ro ri rv q
theorem put_lstU {w : Wd} {hs : Hs} {n : Nat} {a : Addr} {es es' : List D} {vs' : List V} {Q : Hp → Prop} {E : XK} (S : SR c w hs) (q : w.ρ[n]? = some a) (e : hs[n]? = some (.lst es)) (r : Rps c w.ρ w.F es' vs') (h : PostG c w (.ok () (hs.set n (.lst es'))) (fun _ _ w' => Q w'.H) E) : Q (upd w.H a (.lst vs')) := by
  obtain ⟨l, S'⟩ := S.put (o := .lst es') (ho := .lst vs') q ⟨_, e, by simp⟩ ⟨vs', rfl, r⟩
  exact h _ l S'
theorem jset (hu : X.A.units + 1 < cLine) : JSet c X setIx := by
  refine ⟨_, PSet.or set_list (set_dict hu), fun w hs o i v vo vi vv Q E S ro ri rv h => ?_⟩
  unfold setIx at h
  split at h
  · rename_i n
    split at h
    · rename_i es k e
      split at h
      · rename_i j e2
        obtain ⟨a, us, rfl, q, e3, rr⟩ := lst_of S ro e
        exact .inl ⟨a, us, k, j, rfl, ri, e3, by rw [rr.length]; exact ixN_l2 e2, put_lstU S q e (set_rps rv j rr) h⟩
      · exact h.elim
    · rename_i kvs e
      split at h
      · rename_i k e2
        split at h
        · rename_i hl
          obtain ⟨a, us, rfl, q, e3, rr⟩ := dk_of' S ro e
          refine .inr ⟨a, _, rfl, .inl ⟨us, k, e3, key_at e2 ri, by rw [rr.len]; exact sz_lt hl, rfl⟩, ?_⟩
          have km := rr.put k rv
          obtain ⟨l, S'⟩ := S.put (o := .dk (dput kvs k v)) (ho := .dK (putK us k vv)) q ⟨_, e, by simp⟩ ⟨_, rfl, km.1, km.2⟩
          exact h _ l S'
        · exact h.elim
      · exact h.elim
    · rename_i kvs e
      split at h
      · rename_i k e2
        split at h
        · rename_i hl
          unfold Rp at ro
          obtain ⟨a, rfl, q⟩ := ro
          obtain ⟨ho, e3, us, rfl, k1, rr⟩ := loc_at S q e
          unfold keysOf at e2
          split at e2
          · rename_i ds
            unfold Rp at ri
            obtain ⟨b, vs, rfl, qb, rb⟩ := ri
            have ek := keys_at e2 rb
            refine .inr ⟨a, _, rfl, .inr ⟨us, k, b, e3, rfl, by rw [← ek]; exact S.sub _ _ qb, by rw [(show KR c w.ρ w.F kvs us from ⟨k1, rr⟩).len]; exact sz_lt hl, rfl⟩, ?_⟩
            have km := (show KR c w.ρ w.F kvs us from ⟨k1, rr⟩).put k rv
            obtain ⟨l, S'⟩ := S.put (o := .dt (dput kvs k v)) (ho := .dT (putK us k vv)) q ⟨_, e, by simp⟩ ⟨_, rfl, km.1, km.2⟩
            exact h _ l S'
          · cases e2
        · exact h.elim
      · exact h.elim
    · exact h.elim
  · exact h.elim
theorem je_frz (ha : JE c X W e ma) : JE c X W e (eFrz ma) := by
  refine je_ghost (fun w hs x vx Q E S r h => ?_) ha
  cases x with
  | loc n =>
    unfold frz at h
    unfold Rp at r
    obtain ⟨a, rfl, q⟩ := r
    cases e : hs[n]? with
    | none => simp only [e] at h; exact h.elim
    | some o =>
      cases o with
      | lst ds =>
        simp only [e] at h
        obtain ⟨ho, e3, us, rfl, rr⟩ := loc_at S q e
        obtain ⟨l, S'⟩ := S.freeze q e (by simp) e3
        exact h _ l S' (.ref a) (rp_l (rr.le l) upd_same)
      | dk kvs =>
        simp only [e] at h
        obtain ⟨ho, e3, us, rfl, k1, rr⟩ := loc_at S q e
        obtain ⟨l, S'⟩ := S.freeze q e (by simp) e3
        refine h _ l S' (.ref a) ?_
        unfold Rp
        exact ⟨a, us, rfl, upd_same, k1, rr.le l⟩
      | _ => simp only [e] at h; exact h.elim
  | _ => exact h.now S _ r
def vAddO (x y : D) (hs : Hs) : R D := match listOf x hs, listOf y hs with
  | some ds, some es => if ds.length + es.length ≤ 100000 then .ok (.loc hs.length) (hs ++ [.lst (ds ++ es)]) else .bad
  | _, _ => .bad
theorem jo_addO : JO c X (binaryOp .Add) vAddO := by
  refine ⟨_, op_cat, fun w hs x y vx vy Q E S rx ry h => ?_⟩
  unfold vAddO at h
  split at h
  · rename_i ds es e1 e2
    split at h
    · rename_i hl
      obtain ⟨a, vs, rfl, qa, ra⟩ := listOf_at S e1 rx
      obtain ⟨b, us, rfl, qb, rb⟩ := listOf_at S e2 ry
      exact ⟨a, b, vs, us, rfl, rfl, qa, qb, by rw [ra.length, rb.length]; exact sz_le hl, fun p hp => new_lstO S (ra.append rb) h hp⟩
    · exact h.elim
  · exact h.elim
theorem je_ty {T : String} {x : Str} {p : Pos} (hg : Gl X x) (hm : X.mg x = none) (hv : bootBuiltins x = some (.type T)) (hn : x ≠ "__name__" := by decide) (hd : (x == ("__debug__" : Str)) = false := by decide) : JE c X W (.Name x p) (eC (.ty T)) :=
  je_c (pe_bltn (v := .ty T) hg hm hv rfl hn hd) fun _ _ => rfl
variable {pos : Pos}
theorem rp_push {w : Wd} {hs : Hs} {p : Addr} (S : SR c w hs) : Rp c (w.ρ ++ [p]) w.F (.loc hs.length) (.ref p) := by
  refine rp_loc ?_
  rw [← S.len]; simp
theorem je_dk0 : JE c X W (.Dict [] [] pos) eDk := by
  refine ⟨_, pe_dnewK, fun w fs hs σ Q S E h p hp => ?_⟩
  obtain ⟨l, S'⟩ := S.push (o := .dk []) (ho := .dK []) hp ⟨[], rfl, rfl, Rps.nil⟩
  exact h _ l S' (.ref p) (rp_push S)
theorem je_dt0 : JE c X W (.Dict [] [] pos) eDt := by
  refine ⟨_, pe_dnewT, fun w fs hs σ Q S E h p hp => ?_⟩
  obtain ⟨l, S'⟩ := S.push (o := .dt []) (ho := .dT []) hp ⟨[], rfl, rfl, Rps.nil⟩
  exact h _ l S' (.ref p) (rp_push S)
theorem je_df0 : JE c X W (.Dict [] [] pos) eDf := by
  refine ⟨_, pe_dnewK, fun w fs hs σ Q S E h p hp => ?_⟩
  obtain ⟨l, S'⟩ := S.froz hp (.dK [])
  refine h _ l S' (.ref p) ?_
  unfold Rp
  exact ⟨p, [], rfl, upd_same, rfl, Rps.nil⟩
/-- what stands untracked since after w may be tracked -/
theorem SR.adopt {w w2 : Wd} {hs : Hs} {p : Addr} {o : O} {ho : HO} (S : SR c w2 hs) (l : w.le w2) (hp : w.H p = none) (there : ∃ u, w2.H p = some u) (nA : p ∉ w2.ρ) (nF : w2.F p = none) (r : RO c w2.ρ w2.F o ho) : w.le ⟨w2.ρ ++ [p], w2.F, upd w2.H p ho⟩ ∧ SR c ⟨w2.ρ ++ [p], w2.F, upd w2.H p ho⟩ (hs ++ [o]) := by
  obtain ⟨s, es, ns⟩ := l.pre
  refine ⟨⟨⟨s ++ [p], by show w2.ρ ++ [p] = _; rw [es, List.append_assoc], fun a ha => ?_⟩, l.sub, fun a u q hx => ?_, fun a u q => ?_, l.newF⟩, ⟨fun a u q => ?_, by simp [S.len], ?_, fun i a o' q1 q2 d => ?_, fun i a o' q1 q2 => ?_⟩⟩
  · rcases List.mem_append.mp ha with z | z
    · exact ns a z
    · have : a = p := by simpa using z
      rw [this]; exact hp
  · show upd w2.H p ho a = some u
    rw [upd_ne (ne_of_none q hp)]; exact l.keep a u q hx
  · obtain ⟨z, e2⟩ := l.there a u q
    exact ⟨z, by show upd w2.H p ho a = some z; rw [upd_ne (ne_of_none q hp)]; exact e2⟩
  · show upd w2.H p ho a = some u
    rw [upd_ne (ne_of_none q nF)]; exact S.sub a u q
  · exact List.nodup_append.mpr ⟨S.nd, by simp, fun a ha b hb => by
      have : b = p := by simpa using hb
      subst this
      exact fun z => nA (z ▸ ha)⟩
  · have q1' : (w2.ρ ++ [p])[i]? = some a := q1
    by_cases hi : i < w2.ρ.length
    · rw [List.getElem?_append_left hi] at q1'
      rw [List.getElem?_append_left (by rw [← S.len]; exact hi)] at q2
      exact S.fr i a o' q1' q2 d
    · rw [List.getElem?_append_right (Nat.le_of_not_lt hi)] at q1'
      have : a = p := by
        have := List.mem_of_getElem? q1'
        simpa using this
      subst this
      exact nF
  · have q1' : (w2.ρ ++ [p])[i]? = some a := q1
    by_cases hi : i < w2.ρ.length
    · rw [List.getElem?_append_left hi] at q1'
      rw [List.getElem?_append_left (by rw [← S.len]; exact hi)] at q2
      obtain ⟨ho', z1, z2⟩ := S.ob i a o' q1' q2
      exact ⟨ho', by show upd w2.H p ho a = some ho'; rw [upd_ne (fun z : a = p => nA (z ▸ List.mem_of_getElem? q1'))]; exact z1, z2.mono ⟨[p], rfl⟩ fun _ _ q => q⟩
    · have hi' : w2.ρ.length ≤ i := Nat.le_of_not_lt hi
      rw [List.getElem?_append_right hi'] at q1'
      rw [List.getElem?_append_right (by rw [← S.len]; exact hi')] at q2
      have ea : a = p := by
        have := List.mem_of_getElem? q1'
        simpa using this
      have eo : o' = o := by
        have := List.mem_of_getElem? q2
        simpa using this
      subst ea eo
      exact ⟨ho, upd_same, r.mono ⟨_, rfl⟩ fun _ _ q => q⟩
/-- {k: v}, open; k is made, then v -/
theorem je_disp1 {k v : Expr} {mk mv : M} (hk : JE c X W k mk) (hv : JE c X W v mv) : JE c X W (.Dict [some k] [v] pos) (eArgs vDisp1 (aCons mk (aCons mv aNil))) := by
  obtain ⟨tk, pk, sk⟩ := hk.ex; obtain ⟨tv, pv, sv⟩ := hv.ex
  refine ⟨_, pe_disp (pps_cons pk pv pps_nil) rfl rfl (by simp) (by simp), fun w fs hs σ Q S E h p hp => ?_⟩
  obtain ⟨l0, S0⟩ := S.heap (H' := upd w.H p (.dK [])) fun a o q => by rw [upd_ne (ne_of_none q hp)]; exact q
  have n0 : p ∉ w.ρ := S.new hp
  have f0 : w.F p = none := S.newF hp
  show tk σ (upd w.H p (.dK [])) _
  unfold eArgs aCons at h
  refine sk ⟨w.ρ, w.F, upd w.H p (.dK [])⟩ fs hs σ _ S0 (E.le l0) ?_
  cases e1 : mk fs hs with
  | bad => rw [e1] at h; exact h.elim
  | exc x q h1 => rw [e1] at h; exact fun w' od l S z => h w' od (l0.trans l) S z
  | ok x h1 =>
    rw [e1] at h
    intro w1 l1 S1 v1 r1
    refine sv w1 fs h1 σ _ S1 ((E.le l0).le l1) ?_
    unfold aNil at h
    simp only [R.bind_ok] at h
    cases e2 : mv fs h1 with
    | bad => rw [e2] at h; exact h.elim
    | exc x q h1 => rw [e2] at h; exact fun w' od l S z => h w' od ((l0.trans l1).trans l) S z
    | ok y h2 =>
      rw [e2] at h
      simp only [R.bind_ok] at h
      intro w2 l2 S2 v2 r2
      obtain ⟨eA, nA, nF⟩ := le_out (l1.trans l2) (show (⟨w.ρ, w.F, upd w.H p (.dK [])⟩ : Wd).H p = some (.dK []) from upd_same) n0 f0
      unfold vDisp1 two2 at h
      simp only at h
      cases e : keyOf x with
      | none => simp only [e] at h; exact h.elim
      | some q =>
        simp only [e] at h
        have ev := key_at e (r1.le l2)
        show w2.H p = some (.dK []) ∧ _
        refine ⟨eA, [(q, v2)], by rw [ev]; rfl, by simp, ?_⟩
        obtain ⟨l3, S3⟩ := SR.adopt (o := .dk [(q, y)]) (ho := .dK [(q, v2)]) S2 ((l0.trans l1).trans l2) hp ⟨_, eA⟩ nA nF ⟨[(q, v2)], rfl, rfl, Rps.one r2⟩
        exact h _ l3 S3 (.ref p) (rp_push S2)
theorem intsAre_ns : ∀ {ns : List Int} {us : List Value}, Vals (ns.map V.int) us → PyProof.Rows.IntsAre us ns
  | [], _, .nil => .nil
  | n :: ns, _, .cons r t => by
    obtain ⟨k, rfl⟩ := r
    exact .cons n k (intsAre_ns t)
end
end Mm
namespace Mm
open PySem PySem.Spec PyProof.Rows L2 PySem.W
section
variable {X : Cx} {c : Ct} {W : WX} {tg a : Expr} {ma : M} {mas : MA}
def iAny (K : PySem.W.Frag) (tl : TE) : TI := fun σ H R => tl σ H fun x H1 => ∃ a, x = .ref a ∧ (((∃ xs, SqL K H1 a xs) ∧ R (Itl K a) H1) ∨ ((∃ xs, SqT K H1 a xs) ∧ R (Itt K a) H1))
theorem pi_any {l : Expr} {tl : TE} (hl : PE X l tl) : PI X tg l (iAny X.K tl) := by
  refine ⟨fun pins s σ H R I h => ?_⟩
  refine thn (hl.run pins s σ H _ I h) fun v s1 ⟨x, H1, I1, r1, q1⟩ => ?_
  obtain ⟨a, e, q1⟩ := q1
  subst e
  cases r1
  rcases q1 with ⟨⟨xs, hq⟩, q⟩ | ⟨⟨xs, hq⟩, q⟩
  · obtain ⟨its, rv, p, hz⟩ := I1.list hq
    refine wpAny_pyIter_list p.isList ?_
    refine ⟨s1.heap.objs.size, [s1.heap.objs.size], _, _, H1, rfl, I1.kept (t' := s1.toks) fun b o e => Heap.get?_push_of_some _ e, turn_list a _, ⟨_, Heap.get?_push_size _ rfl, rfl, rfl⟩, fun b hb => ?_, q⟩
    have e : b = s1.heap.objs.size := by simpa using hb
    subst e
    exact I1.fpOk (Nat.le_refl _) (I1.hok.fresh (Nat.le_refl _))
  · obtain ⟨its, rv, p, hz⟩ := I1.tuple hq
    refine wpAny_pyIter_tuple (show s1.heap.IsTuple a its.toArray from p) ?_
    refine ⟨s1.heap.objs.size, [s1.heap.objs.size], _, _, H1, rfl, I1.kept (t' := s1.toks) fun b o e => Heap.get?_push_of_some _ e, turn_tuple a _, ⟨_, Heap.get?_push_size _ rfl, rfl, rfl⟩, fun b hb => ?_, q⟩
    have e : b = s1.heap.objs.size := by simpa using hb
    subst e
    exact I1.fpOk (Nat.le_refl _) (I1.hok.fresh (Nat.le_refl _))
theorem ji_any (hK : X.K = c.K) (ha : JE c X W a ma) : JI c X W tg a (iSeq ma) := by
  obtain ⟨t, p, s⟩ := ha.ex
  refine ⟨_, pi_any p, fun w fs hs σ Rr S E h => ?_⟩
  refine s w fs hs σ _ S E ((PostG.bind h).imp fun d h1 w1 l1 S1 p1 v1 r1 => ?_)
  cases d with
  | l ds =>
    unfold Rp at r1
    obtain ⟨q, vs, rfl, hq, rs⟩ := r1
    exact ⟨q, rfl, .inl ⟨⟨vs, SqL.of (S1.sub _ _ hq)⟩, p1.now S1 _ (seqL_src (SqL.of hq) rs hK)⟩⟩
  | rl ds =>
    unfold Rp at r1
    obtain ⟨q, vs, rfl, hq, rs⟩ := r1
    exact ⟨q, rfl, .inl ⟨⟨vs, by rw [hK]; exact sql_sub S1.sub hq⟩, p1.now S1 _ (seqL_src hq rs hK)⟩⟩
  | loc n =>
    unfold Rp at r1
    obtain ⟨q, rfl, hq⟩ := r1
    cases e : h1[n]? with
    | none => simp only [e] at p1; exact p1.elim
    | some o =>
      cases o with
      | lst ds =>
        simp only [e] at p1
        obtain ⟨ho, e1, vs, rfl, rr⟩ := loc_at S1 hq e
        exact ⟨q, rfl, .inl ⟨⟨vs, SqL.of e1⟩, p1.now S1 _ (loc_src hq)⟩⟩
      | _ => simp only [e] at p1; exact p1.elim
  | st ds =>
    unfold Rp at r1
    obtain ⟨q, vs, rfl, hq, rs⟩ := r1
    exact ⟨q, rfl, .inr ⟨⟨vs, sqt_sub S1.sub (st_sqt hq)⟩, p1.now S1 _ (seqT_src (st_sqt hq) rs hK)⟩⟩
  | t ds =>
    unfold Rp at r1
    obtain ⟨q, vs, rfl, hq, rs⟩ := r1
    exact ⟨q, rfl, .inr ⟨⟨vs, SqT.of (S1.sub _ _ hq)⟩, p1.now S1 _ (seqT_src (SqT.of hq) rs hK)⟩⟩
  | _ => exact p1.elim
set_option maxHeartbeats 1000000 in
theorem meets_enumerate_new1 {v : Value} {o : Obj} {H : Heap → Prop} (B : Begins v o H) :
    Meets (Builtin.«enumerate.__new__» ⟨[.type "enumerate", v], []⟩) (fun _ R s => H s.heap ∧
      R (.ok (.ret (.ref (s.heap.push o).objs.size))) { s with heap := (s.heap.push o).push { cls := .type "enumerate", data := .fields #[.none, .bool false, .ref s.heap.objs.size, rawInt 0, .none, .none] } }) :=
  .of_wp fun prog w A R s h => by
    obtain ⟨hp, g, d, tk, os⟩ := s; obtain ⟨h1, h⟩ := h
    have hsub := sub_enumerate
    have q1 : ∀ {A' : Around} {E : Value → Shared → Prop} {Q : Value → Shared → Prop}, Q (.ref hp.objs.size) ⟨hp.push o, g, d, tk, os⟩ → wpAny (model prog w) A' (pyIter v) Q E ⟨hp, g, d, tk, os⟩ :=
      fun q => B.iter prog w _ _ ⟨hp, g, d, tk, os⟩ _ h1 q
    wp_walk using q1
    refine wpAny_stack_any fun st => wpAny_pure ?_
    split
    · rename_i c _ _ _ _ _
      cases (c == Value.type "enumerate")
      · wp_walk using q1
        exact ⟨_, rfl, h⟩
      · wp_walk using q1
        exact ⟨_, rfl, h⟩
    · wp_walk using q1
      exact ⟨_, rfl, h⟩
theorem call_enumerate_1 {prog : Program} {w : World} {A : Around} {E : Value → Shared → Prop} {s : Shared} {v : Value} {o : Obj} {H : Heap → Prop} {Q : Value → Shared → Prop} (B : Begins v o H) (h1 : H s.heap)
    (h : ∀ h', IsEnum h' (s.heap.objs.size + 1) s.heap.objs.size 0 .none → h'.get? s.heap.objs.size = some o → h'.objs.size = s.heap.objs.size + 2 →
      (∀ b o, s.heap.get? b = some o → h'.get? b = some o) → Q (.ref (s.heap.objs.size + 1)) { s with heap := h' }) :
    wpAny (model prog w) A (call (.type "enumerate") [v]) Q E s := by
  refine callType_new F.called_enumerate (by decide) (F.typeCall_enumerate_1 _) (F.newCall_enumerate_1 _) (fun obj => F.args_object_init_2 obj _) F.entry_enumerate_new
    (meets_enumerate_new1 B) ⟨h1, ?_⟩
  have hz : (s.heap.push o).objs.size = s.heap.objs.size + 1 := Heap.size_push ..
  show _ ∧ _
  rw [hz]
  have he : IsEnum ((s.heap.push o).push { cls := .type "enumerate", data := .fields #[.none, .bool false, .ref s.heap.objs.size, rawInt 0, .none, .none] }) (s.heap.objs.size + 1) s.heap.objs.size 0 .none := by
    have := Heap.get?_push_size (s.heap.push o) (o := { cls := .type "enumerate", data := .fields #[.none, .bool false, .ref s.heap.objs.size, rawInt 0, .none, .none] }) rfl
    rw [hz] at this; exact this
  refine ⟨⟨_, he, rfl⟩, h _ he (Heap.get?_push_of_some _ (Heap.get?_push_size _ B.free)) (by rw [Heap.size_push, hz]) fun b o x => Heap.get?_push_of_some _ (Heap.get?_push_of_some _ x)⟩
def IteT (K : PySem.W.Frag) (a : Addr) : It :=
  ⟨fun i H => ∃ (xs : List V) (x : V), SqT K H a xs ∧ xs[i]? = some x, fun i H v H' => ∃ T x, v = .ref T ∧ H T = none ∧ H' = upd H T (.tup [.int (i : Nat), x]) ∧ ∀ xs, SqT K H a xs → xs[i]? = some x, fun i H => ∃ xs : List V, SqT K H a xs ∧ xs.length ≤ i⟩
theorem turn_enumT {P : Program} {w : World} {K : PySem.W.Frag} {elts : List Expr} {kk : Nat} {tpos : Pos} (a e it : Addr) :
    Turn P w K (.Tuple elts kk tpos) (IteT K a) [e, it] e (fun i h => (∃ old, IsEnum h e it ((i : Nat) : Int) old) ∧ h.IsTupleIter it a i ∧ e ≠ it) where
  mem := by simp
  obj := fun i h st b hb => by
    obtain ⟨⟨old, he⟩, ⟨o, ho, hc, hd⟩, _⟩ := st
    have e' : b = e ∨ b = it := by simpa using hb
    rcases e' with z | z
    · rw [z]; exact ⟨_, he, fun v q => nomatch q⟩
    · rw [z]; exact ⟨o, ho, fun v q => by rw [hd] at q; cases q⟩
  keep := fun i h h' st k => let ⟨⟨old, he⟩, hi, hne⟩ := st; ⟨⟨old, k e (by simp) _ he⟩, hi.at fun o q => k it (by simp) o q, hne⟩
  item := by
    intro X hP hw hK hc i pins s σ H E I hf st hg
    subst hP hw hK
    obtain ⟨⟨old, he⟩, hit, hne⟩ := st
    obtain ⟨xs, x, hq, hx⟩ := hg
    obtain ⟨its, rv, p, hz⟩ := I.tuple hq
    obtain ⟨u, hu, ru⟩ := rv.get hx
    have hel : e < s.heap.objs.size := Heap.lt_size he
    have hil : it < s.heap.objs.size := by obtain ⟨_, q, _⟩ := hit; exact Heap.lt_size q
    have p' : s.heap.IsTuple a its.toArray := p
    have hai : a ≠ it := fun z => by
      obtain ⟨o1, e1, c1, _⟩ := hit
      obtain ⟨o2, e2, c2, _⟩ := p'
      rw [z] at e2
      rw [e1] at e2
      cases e2
      rw [c1] at c2
      injection c2 with z2
      exact absurd z2 (by decide)
    have hae : e ≠ a := fun z => by
      obtain ⟨o2, e2, c2, _⟩ := p'
      rw [← z] at e2
      have he' := he
      unfold IsEnum at he'
      rw [he'] at e2
      cases e2
      injection c2 with z2
      exact absurd z2 (by decide)
    have hd : X.A.in1.handled = none := I.ok.hd hc
    refine wpAny_pyNext_enum_itemD (Draws.tuple hd it a hai its.toArray) he ⟨hit, p'⟩ (by
      have := (List.getElem?_eq_some_iff.mp hu).1
      simpa using this) hne (by simp [hne, hae]) fun u' h' tk hu' ho hit' hT hsz hk => ?_
    have eu : u' = u := by
      have : its[i]? = some u' := by simpa using hu'
      rw [hu] at this
      cases this; rfl
    subst eu
    refine ⟨_, rfl, wpAny_letOwnedTupleGo_enum (s := { s with heap := h', toks := tk + 1 }) ho fun h'' he' sb => ?_⟩
    have hT2 : h''.get? s.heap.objs.size = some { cls := .type "tuple", data := .seq #[.int i tk, u'] } := (sb.2 _ (Nat.ne_of_gt hel)).trans hT
    have new : ObjOk X.prog X.w (upd H s.heap.objs.size (.tup [.int (i : Nat), x])) h'' s.heap.objs.size (.tup [.int (i : Nat), x]) :=
      ⟨by show 2 ≤ sizeLine; decide, [.int i tk, u'], .cons ⟨_, rfl⟩ (.cons ru .nil), ⟨_, hT2, rfl, _, rfl⟩⟩
    have I1 : Inv X pins σ (upd H s.heap.objs.size (.tup [.int (i : Nat), x])) { s with heap := h'', toks := tk + 1 } :=
      I.turnedNew (ch := [e, it]) (fun b ob hb q => (sb.2 b (fun z => hb (by simp [z]))).trans (hk b ob (fun z => hb (by simp [z])) (fun z => hb (by simp [z])) q)) hf (Nat.le_refl _) new
    refine ⟨.ref s.heap.objs.size, _, I1, rfl, ⟨_, x, rfl, I.hok.fresh (Nat.le_refl _), rfl, fun ys hy => by rw [I.tuple_inj hy hq]; exact hx⟩, ⟨⟨u', ?_⟩, hit'.1.at fun o q => (sb.2 it (Ne.symm hne)).trans q, hne⟩, fun b hb => ?_⟩
    · have e1 : ((i + 1 : Nat) : Int) = (i : Int) + 1 := by omega
      rw [e1]; exact he'
    · have hb' : b < s.heap.objs.size := by
        have e' : b = e ∨ b = it := by simpa using hb
        rcases e' with z | z
        · rw [z]; exact hel
        · rw [z]; exact hil
      rw [upd_ne (Nat.ne_of_lt hb')]
      exact (hf b hb).1
  done := by
    intro X hP hw hK hc i pins s σ H E I hf st hg
    subst hP hw hK
    obtain ⟨⟨old, he⟩, hit, hne⟩ := st
    obtain ⟨xs, hq, hx⟩ := hg
    obtain ⟨its, rv, p, hz⟩ := I.tuple hq
    obtain ⟨f0, f1, f2, f3, f4, f5⟩ := hf it (by simp)
    have hl := rv.length
    have p' : s.heap.IsTuple a its.toArray := p
    have hT : s.TypeIs (.ref e) "enumerate" := ⟨_, he, rfl⟩
    unfold pyNext
    refine wpAny_bind (wpAny_attempt (wpAny_callSpecial?_slot (name := Str.ofString "__next__") hT F.slot_enumerate_next
      (wpAny_call_entry F.slot_enumerate_next hT F.entry_enumerate_next ?_ (F.args_enumerate_next_1 _))))
    show wpAny _ _ (field (.ref e) 2 >>= _) _ _ _
    refine wpAny_bind (wpAny_field he rfl (x := .ref it) rfl ?_)
    refine wpAny_bind (wpAny_nextOf_tuple_end (I.ok.hd hc) hit p' (by simp; omega) fun h' x he' hx' => ?_)
    obtain ⟨o, ho, hc2⟩ := hx'
    refine wpAny_bind (wpAny_isInstance (T := "StopIteration") (b := true) ⟨o, ho, hc2⟩ isSubtype_stop ?_)
    exact wpAny_pure ⟨rfl, I.turned (t' := s.toks) (fun b o hb q => he' b o hb q) f0 f1 f3 f4 f5⟩
  self := fun A i s Q E st h => let ⟨⟨_, he⟩, _⟩ := st; wpAny_pyIter_enum he h
def iEnumA (K : PySem.W.Frag) (ta : TA) : TI := fun σ H R => ta σ H fun vs H1 => ∃ a, vs = [.ref a] ∧ ((∃ xs, SqL K H1 a xs ∧ R (L2.Ite K a) H1) ∨ ∃ xs, SqT K H1 a xs ∧ R (IteT K a) H1)
theorem pi_enumA {X : Cx} {e : Expr} {ta : TA} {p pos tpos : Pos} {elts : List Expr} {kk : Nat} (hg : Gl X "enumerate") (hm : X.mg "enumerate" = none) (ha : PA X [e] ta) (hs : starEach [e] X.env = [(false, eval e X.env)] := by rfl) :
    PI X (.Tuple elts kk tpos) (.Call (.Name "enumerate" p) [e] [] pos) (iEnumA X.K ta) := by
  refine ⟨fun pins s σ H R I h => ?_⟩
  refine Call_ (ld_blt I hg hm boot_enumerate (PyProof.Rows.callWith_type1 (thn (ha.run pos pins s σ H _ I h) fun us s1 ⟨vs, H1, I1, r1, q1⟩ => ?_) hs rfl))
  obtain ⟨a, ex, q1⟩ := q1
  subst ex
  have fin : ∀ (h' : Heap), (∀ b o, s1.heap.get? b = some o → h'.get? b = some o) → Inv X pins σ H1 { s1 with heap := h' } := fun h' hk => I1.kept (t' := s1.toks) hk
  have fp : ∀ b ∈ [s1.heap.objs.size + 1, s1.heap.objs.size], FpOk X pins H1 b := fun b hb => by
    have e' : b = s1.heap.objs.size + 1 ∨ b = s1.heap.objs.size := by simpa using hb
    have hle : s1.heap.objs.size ≤ b := by
      rcases e' with z | z
      · rw [z]; exact Nat.le_add_right _ _
      · rw [z]; exact Nat.le_refl _
    exact I1.fpOk hle (I1.hok.fresh hle)
  cases r1 with
  | cons r rr =>
    cases rr
    cases r
    rcases q1 with ⟨xs, hq, q⟩ | ⟨xs, hq, q⟩
    · obtain ⟨its, rv, p', hz⟩ := I1.list hq
      refine call_enumerate_list p'.isList fun h' he hit hsz hk => wpAny_pyIter_enum he ?_
      exact ⟨s1.heap.objs.size + 1, [s1.heap.objs.size + 1, s1.heap.objs.size], _, _, H1, rfl, fin h' hk, turn_enum a (s1.heap.objs.size + 1) s1.heap.objs.size, ⟨⟨.none, he⟩, hit, Nat.succ_ne_self _⟩, fp, q⟩
    · obtain ⟨its, rv, p', hz⟩ := I1.tuple hq
      refine call_enumerate_1 (begins_tuple a its.toArray) (show s1.heap.IsTuple a its.toArray from p') fun h' he hit hsz hk => wpAny_pyIter_enum he ?_
      exact ⟨s1.heap.objs.size + 1, [s1.heap.objs.size + 1, s1.heap.objs.size], _, _, H1, rfl, fin h' hk, turn_enumT a (s1.heap.objs.size + 1) s1.heap.objs.size, ⟨⟨.none, he⟩, ⟨_, hit, rfl, rfl⟩, Nat.succ_ne_self _⟩, fp, q⟩
/-- enumerate over a list or a tuple -/
def _root_.Mm.iEnum2 (as : MA) : MI := fun fs hs => (as fs hs).bind fun d h1 => match one1 d with
  | some (.l ds) => .ok (enumD ds, none) h1
  | some (.t ds) => .ok (enumD ds, none) h1
  | some (.loc n) => match h1[n]? with
    | some (.lst ds) => .ok (enumD ds, some (n, ds)) h1
    | _ => .bad
  | _ => .bad
theorem ji_enum2 {p tpos pos : Pos} {elts : List Expr} {kk : Nat} (hg : Gl X "enumerate") (hm : X.mg "enumerate" = none) (ha : JA c X W [a] mas) (hs : starEach [a] X.env = [(false, eval a X.env)] := by rfl) :
    JI c X W (.Tuple elts kk tpos) (.Call (.Name "enumerate" p) [a] [] pos) (Mm.iEnum2 mas) := by
  obtain ⟨t, pa, s⟩ := ha.ex
  refine ⟨_, pi_enumA hg hm pa hs, fun w fs hs σ Rr S E h => ?_⟩
  refine s w fs hs σ _ S E (h.bind.imp fun ds h1 w1 l1 S1 p1 vs rs => ?_)
  cases e : one1 ds with
  | none => simp only [e] at p1; exact p1.elim
  | some d =>
    simp only [e] at p1
    obtain rfl := one1_some e
    unfold Rps at rs
    obtain ⟨v, r, rfl, r1, h2⟩ := rs
    unfold Rps at h2
    subst h2
    have tupd : ∀ (w' : Wd) (hs' : Hs) (i : Nat) (x : D) (u : L2.V), SR c w' hs' → Rp c w'.ρ w'.F x u → ∀ (T : Addr), w'.H T = none → ∃ w'' : Wd, w'.le w'' ∧ w''.H = upd w'.H T (.tup [.int (i : Nat), u]) ∧ SR c w'' hs' ∧ Rp c w''.ρ w''.F (.t [.int (i : Nat), x]) (.ref T) := fun w' hs' i x u S' ru T hT => by
      obtain ⟨l, S2⟩ := S'.froz hT (.tup [.int (i : Nat), u])
      exact ⟨_, l, rfl, S2, rp_t (Rps.cons rfl (Rps.one (ru.le l))) upd_same⟩
    cases d with
    | l xs =>
      unfold Rp at r1
      obtain ⟨q, vs, rfl, hq, rr⟩ := r1
      have hq1 : SqL X.K w1.H q vs := SqL.of (S1.sub _ _ hq)
      refine ⟨q, rfl, .inl ⟨vs, hq1, p1.now S1 _ ⟨fun i d w' hs' l S' _ e2 => ?_, fun w' hs' l S' _ => ?_⟩⟩⟩
      · obtain ⟨x, e3, rfl⟩ := enum_get e2
        obtain ⟨u, e4, r4⟩ := rr.get e3
        have hq' : SqL X.K w'.H q vs := SqL.of (S'.sub _ _ (l.sub _ _ hq))
        refine ⟨⟨vs, u, hq', e4⟩, fun y H' hy => ?_⟩
        obtain ⟨T, x', rfl, hT, rfl, hx⟩ := hy
        have e5 := hx vs hq'
        rw [e4] at e5
        cases e5
        exact tupd w' hs' i x u S' (r4.le l) T hT
      · refine ⟨vs, SqL.of (S'.sub _ _ (l.sub _ _ hq)), ?_⟩
        show vs.length ≤ (enumD xs).length
        rw [enum_len, rr.length]
        exact Nat.le_refl _
    | t xs =>
      unfold Rp at r1
      obtain ⟨q, vs, rfl, hq, rr⟩ := r1
      have hq1 : SqT X.K w1.H q vs := SqT.of (S1.sub _ _ hq)
      refine ⟨q, rfl, .inr ⟨vs, hq1, p1.now S1 _ ⟨fun i d w' hs' l S' _ e2 => ?_, fun w' hs' l S' _ => ?_⟩⟩⟩
      · obtain ⟨x, e3, rfl⟩ := enum_get e2
        obtain ⟨u, e4, r4⟩ := rr.get e3
        have hq' : SqT X.K w'.H q vs := SqT.of (S'.sub _ _ (l.sub _ _ hq))
        refine ⟨⟨vs, u, hq', e4⟩, fun y H' hy => ?_⟩
        obtain ⟨T, x', rfl, hT, rfl, hx⟩ := hy
        have e5 := hx vs hq'
        rw [e4] at e5
        cases e5
        exact tupd w' hs' i x u S' (r4.le l) T hT
      · refine ⟨vs, SqT.of (S'.sub _ _ (l.sub _ _ hq)), ?_⟩
        show vs.length ≤ (enumD xs).length
        rw [enum_len, rr.length]
        exact Nat.le_refl _
    | loc n =>
      unfold Rp at r1
      obtain ⟨q, rfl, hq⟩ := r1
      cases z : h1[n]? with
      | none => simp only [z] at p1; exact p1.elim
      | some o =>
        cases o with
        | lst xs =>
          simp only [z] at p1
          obtain ⟨ho, e1, vs, rfl, rr⟩ := loc_at S1 hq z
          refine ⟨q, rfl, .inl ⟨vs, SqL.of e1, p1.now S1 _ ⟨fun i d w' hs' l S' st e2 => ?_, fun w' hs' l S' st => ?_⟩⟩⟩
          · obtain ⟨x, e3, rfl⟩ := enum_get e2
            obtain ⟨ho', e6, vs', rfl, rr'⟩ := loc_at S' (rho_le l hq) st
            obtain ⟨u, e4, r4⟩ := rr'.get e3
            refine ⟨⟨vs', u, SqL.of e6, e4⟩, fun y H' hy => ?_⟩
            obtain ⟨T, x', rfl, hT, rfl, hx⟩ := hy
            have e5 := hx vs' (SqL.of e6)
            rw [e4] at e5
            cases e5
            exact tupd w' hs' i x u S' r4 T hT
          · obtain ⟨ho', e6, vs', rfl, rr'⟩ := loc_at S' (rho_le l hq) st
            refine ⟨vs', SqL.of e6, ?_⟩
            show vs'.length ≤ (enumD xs).length
            rw [enum_len, rr'.length]
            exact Nat.le_refl _
        | _ => simp only [z] at p1; exact p1.elim
    | _ => exact p1.elim
end
end Mm
namespace Mm
def m_is_between : MS := (sRet (eAnd (eArgs vIsi (aCons (eVar 0) (aCons (eC (.ty "int")) aNil))) (eAnd (eNot (eArgs vIsi (aCons (eVar 0) (aCons (eC (.ty "bool")) aNil)))) (eChain vLe vLe (eVar 1) (eVar 0) (eVar 2)))))
def c_is_between : List D → Hs → R D := callD 3 3 0 m_is_between
def body_routes_from_0 : MS := (sIf (tAnd (tVal (eBin vEq (eVar 6) (eVar 5))) (tVal (eBin vNotIn (eVar 7) (eVar 2)))) (sSeq (sAsg (eArgs vTup (aCons (eBin vAdd (eBin vIx (eVar 4) (eC (.int 0))) (eVar 8)) (aCons (eBin vAdd (eBin vIx (eVar 4) (eC (.int 1))) (eC (.int 1))) (aCons (eBin vAdd (eBin vIx (eVar 4) (eC (.int 2))) (eArgs vTup (aCons (eVar 7) aNil))) aNil)))) (Mm.gName 10))
  (sAsg (eArgs vMin2 (aCons (eMeth isDct mGet2 (eVar 3) (aCons (eVar 7) (aCons (eVar 10) aNil))) (aCons (eVar 10) aNil))) (Mm.gSub setIx (eVar 3) (eVar 7)))) sNx)
def body_routes_from_1 : MS := (sSeq (sAsg (eUn vMinV (eVar 3)) (Mm.gName 4))
  (sSeq (sAsg (eBin vIx (eBin vIx (eVar 4) (eC (.int 2))) (eUn vNeg (eC (.int 1)))) (Mm.gName 5))
  (sSeq (sExpr (eMeth isDct mPopK (eVar 3) (aCons (eVar 5) aNil)))
  (sSeq (sAsg (eVar 4) (Mm.gSub setIx (eVar 2) (eVar 5)))
  (sFor (iSeq (eVar 0)) (Mm.gTup (Mm.gCons (Mm.gName 6) (Mm.gCons (Mm.gName 7) (Mm.gCons (Mm.gName 8) (Mm.gCons (Mm.gName 9) Mm.gNil))))) body_routes_from_0)))))
def m_routes_from : MS := (sSeq (sAsg eDk (Mm.gName 2))
  (sSeq (sAsg (eArgs vDisp1 (aCons (eVar 1) (aCons (eArgs vTup (aCons (eC (.int 0)) (aCons (eC (.int 1)) (aCons (eArgs vTup (aCons (eVar 1) aNil)) aNil)))) aNil))) (Mm.gName 3))
  (sSeq (sWhile 100 (tVal (eBin vNe (eVar 3) eDf)) body_routes_from_1)
  (sRet (eFrz (eVar 2))))))
def c_routes_from : List D → Hs → R D := callD 2 11 0 m_routes_from
def body_law_dice_0 : MS := (sAsg (eBin vMod (eBin vAdd (eBin vMul (eVar 2) (eC (.int 31))) (eArgs vAbs (aCons (eVar 3) aNil))) (eC (.int 2147483647))) (Mm.gName 2))
def m_law_dice : MS := (sSeq (sAsg (eVar 1) (Mm.gName 2))
  (sSeq (sFor (iSeq (eVar 0)) (Mm.gName 3) body_law_dice_0)
  (sRet (eBin vAddO (eArgs vLst (aCons (eVar 2) (aCons (eC (.int 0)) aNil))) (eLc [3] (iSeq (eVar 0)) (Mm.gName 3) (tVal (eBin vGe (eVar 3) (eBin vPow (eC (.int 10)) (eC (.int 18))))) (eVar 3))))))
def c_law_dice : List D → Hs → R D := callD 2 4 1 m_law_dice
def m_law_off : MS := (sSeq (sIf (tAnd (tVal (eBin vEq (eBin vIx (eVar 0) (eC (.int 1))) (eC (.int 0)))) (tVal (eBin vGt (eArgs vLen (aCons (eVar 0) aNil)) (eC (.int 2))))) (sAsg (eMeth isLst mPopAt (eVar 0) (aCons (eC (.int 2)) aNil)) (Mm.gSub setIx (eVar 0) (eC (.int 1)))) sNx)
  (sSeq (sIf (tVal (eBin vGt (eBin vIx (eVar 0) (eC (.int 1))) (eC (.int 0)))) (sSeq (sAsg (eBin vMod (eBin vIx (eVar 0) (eC (.int 1))) (eVar 1)) (Mm.gName 2))
  (sSeq (sAsg (eBin vFdiv (eBin vIx (eVar 0) (eC (.int 1))) (eVar 1)) (Mm.gSub setIx (eVar 0) (eC (.int 1))))
  (sRet (eVar 2)))) sNx)
  (sSeq (sAsg (eBin vMod (eBin vAdd (eBin vMul (eBin vIx (eVar 0) (eC (.int 0))) (eC (.int 48271))) (eC (.int 11))) (eC (.int 2147483647))) (Mm.gSub setIx (eVar 0) (eC (.int 0))))
  (sRet (eBin vMod (eBin vFdiv (eBin vIx (eVar 0) (eC (.int 0))) (eC (.int 64))) (eVar 1))))))
def c_law_off : List D → Hs → R D := callD 2 3 0 m_law_off
def m_is_kind : MS := (sRet (eArgs c_is_between (aCons (eVar 0) (aCons (eC (.int 0)) (aCons (eBin vSub (eC (.int 10)) (eC (.int 1))) aNil)))))
def c_is_kind : List D → Hs → R D := callD 1 1 0 m_is_kind
def body_law_ways_0 : MS := (sSeq (sAsg (eArgs vTup (aCons (eArgs c_law_off (aCons (eVar 0) (aCons (eVar 3) aNil))) (aCons (eArgs c_law_off (aCons (eVar 0) (aCons (eVar 3) aNil))) aNil))) (Mm.gName 6))
  (sIf (tAnd (tVal (eBin vNe (eBin vIx (eVar 6) (eC (.int 0))) (eBin vIx (eVar 6) (eC (.int 1))))) (tVal (eBin vNotIn (eVar 6) (eVar 5)))) (sSeq (sExpr (eMeth isLst mAppend (eVar 5) (aCons (eVar 6) aNil)))
  (sSeq (sAsg (eArgs c_law_off (aCons (eVar 0) (aCons (eBin vIx (eArgs vLst (aCons (eC (.int 3)) (aCons (eC (.int 10)) aNil))) (eArgs c_law_off (aCons (eVar 0) (aCons (eC (.int 2)) aNil)))) aNil))) (Mm.gName 7))
  (sExpr (eMeth isLst mAppend (eVar 4) (aCons (eBin vAdd (eVar 6) (eArgs vTup (aCons (eVar 7) (aCons (eBin vIx (eArgs vLst (aCons (eC (.str "same")) (aCons (eC (.str "turn")) (aCons (eC (.str "sort")) (aCons (eC (.str "half")) (aCons (eC (.str "next")) aNil)))))) (eArgs c_law_off (aCons (eVar 0) (aCons (eC (.int 5)) aNil)))) aNil)))) aNil))))) sNx))
def m_law_ways : MS := (sSeq (sPar 2 3 (eBin vIx (eArgs vLst (aCons (eC (.int 4)) (aCons (eC (.int 12)) (aCons (eC (.int 30)) aNil)))) (eArgs c_law_off (aCons (eVar 0) (aCons (eC (.int 3)) aNil)))) (eBin vIx (eArgs vLst (aCons (eC (.int 3)) (aCons (eC (.int 6)) (aCons (eC (.int 10)) aNil)))) (eArgs c_law_off (aCons (eVar 0) (aCons (eC (.int 3)) aNil)))))
  (sSeq (sPar 4 5 (eArgs vLstO aNil) (eArgs vLstO aNil))
  (sSeq (sFor (Mm.iRng1 (aCons (eArgs c_law_off (aCons (eVar 0) (aCons (eBin vAdd (eVar 2) (eC (.int 1))) aNil))) aNil)) (Mm.gName 1) body_law_ways_0)
  (sRet (eFrz (eVar 4))))))
def c_law_ways : List D → Hs → R D := callD 1 8 0 m_law_ways
def m_is_way : MS := (sSeq (sIf (tOr (tNot (tVal (eArgs vIsi (aCons (eVar 0) (aCons (eC (.ty "tuple")) aNil))))) (tOr (tVal (eBin vNe (eArgs vLen (aCons (eVar 0) aNil)) (eC (.int 4)))) (tOr (tNot (tVal (eArgs c_is_kind (aCons (eBin vIx (eVar 0) (eC (.int 0))) aNil)))) (tOr (tNot (tVal (eArgs c_is_kind (aCons (eBin vIx (eVar 0) (eC (.int 1))) aNil)))) (tVal (eBin vEq (eBin vIx (eVar 0) (eC (.int 0))) (eBin vIx (eVar 0) (eC (.int 1))))))))) (sRet (eC (.bl false))) sNx)
  (sRet (eAnd (eArgs c_is_between (aCons (eBin vIx (eVar 0) (eC (.int 2))) (aCons (eC (.int 0)) (aCons (eC (.int 9)) aNil)))) (eAnd (eArgs vIsi (aCons (eBin vIx (eVar 0) (eC (.int 3))) (aCons (eC (.ty "str")) aNil))) (eBin vIn (eBin vIx (eVar 0) (eC (.int 3))) (eC (.rt [.str "same", .str "turn", .str "sort", .str "half", .str "next"])))))))
def c_is_way : List D → Hs → R D := callD 1 1 0 m_is_way
def m_need_kind : MS := (sIf (tNot (tVal (eArgs c_is_kind (aCons (eVar 0) aNil)))) sNever sNx)
def c_need_kind : List D → Hs → R D := callD 1 1 0 m_need_kind
def body_need_ways_0 : MS := (sSeq (sIf (tOr (tVal (eBin vGe (eVar 2) (eC (.int 30)))) (tOr (tNot (tVal (eArgs c_is_way (aCons (eVar 3) aNil)))) (tVal (eBin vIn (eSl vSl (eVar 3) oNone (oSome (eC (.int 2)))) (eVar 1))))) sNever sNx)
  (sAsg (eC (.bl true)) (Mm.gSub setIx (eVar 1) (eSl vSl (eVar 3) oNone (oSome (eC (.int 2)))))))
def m_need_ways : MS := (sSeq (sAsg eDt (Mm.gName 1))
  (sFor (Mm.iEnum2 (aCons (eVar 0) aNil)) (Mm.gTup (Mm.gCons (Mm.gName 2) (Mm.gCons (Mm.gName 3) Mm.gNil))) body_need_ways_0))
def c_need_ways : List D → Hs → R D := callD 1 4 0 m_need_ways
def m_best_way : MS := (sSeq (sExpr (eArgs c_need_ways (aCons (eVar 0) aNil)))
  (sSeq (sExpr (eArgs c_need_kind (aCons (eVar 1) aNil)))
  (sSeq (sExpr (eArgs c_need_kind (aCons (eVar 2) aNil)))
  (sSeq (sAsg (eMeth isDct mGet2 (eArgs c_routes_from (aCons (eVar 0) (aCons (eVar 1) aNil))) (aCons (eVar 2) (aCons (eC .non) aNil))) (Mm.gName 3))
  (sRet (eIf (tVal (eBin (onN vIsN) (eVar 3) (eC .non))) (eC .non) (eArgs vTup (aCons (eBin vIx (eVar 3) (eC (.int 0))) (aCons (eArgs vList (aCons (eBin vIx (eVar 3) (eC (.int 2))) aNil)) aNil)))))))))
def c_best_way : List D → Hs → R D := callD 3 4 0 m_best_way
end Mm
namespace Mm
open PySem PySem.Spec PyProof.Rows L2
def keyOb : Mm.Key → D
  | .inl i => .int i
  | .inr x => .str x
section
variable {c : Ct} {X : Cx} {W : WX} {a b e : Expr} {es : List Expr} {pos : Pos}
theorem keyOb_rp {ρ : List Addr} {F : Hp} (k : Mm.Key) : Rp c ρ F (keyOb k) (kV k) := by
  cases k <;> (unfold Rp keyOb; rfl)
end
end Mm
namespace Mm
open PySem PySem.Spec PyProof.Rows L2 PySem.W
section
variable {P : Program} {w : World} {A : Around} {E : Value → Shared → Prop} {s : Shared}
theorem call_set_lstI {l : Addr} {items : Array Value} (ns : List Int) {Q : Value → Shared → Prop} (hh : A.handled = none) (hl : s.heap.IsList l items) (hit : IntsAre items.toList ns) (hb : ns.length + 1 < scanBound)
    (h : ∀ (h' : Heap) (tk c : Nat), SetR w h' s.heap.objs.size (fun j => decide (j ∈ ns)) c → c ≤ ns.length → (∀ b o, s.heap.get? b = some o → h'.get? b = some o) → Q (.ref s.heap.objs.size) { s with heap := h', toks := tk }) :
    wpAny (model P w) A (call (.type "set") [.ref l]) Q E s := by
  have hisz : items.size = ns.length := by
    have q := IntsAre.length hit
    rw [Array.length_toList] at q
    exact q
  obtain ⟨c, tl, hmro⟩ := F.called_set.mro
  have hmade := F.called_set.made
  have hsub := F.called_set.sub
  refine wpAny_call (codeAny_of_tree ?_)
  show wpAny _ _ (callAny (.type "set") _) _ _ _
  refine wpAny_pure ⟨Code.quiet_builtin _ (by decide +kernel), codeAny_builtin F.entry_type_call ?_⟩
  rw [Around.under_plain (weight_type_call_type "set" [.ref l] []) rfl]
  have h1 := F.called_set.notType
  have h2 := F.called_set.canCreate
  have hct := F.typeCall_set_1 (.ref l)
  repeat (any_goals (first | assumption | wp_step))

  refine codeAny_mono (code_set_led1 (.ref l) (E := E) (Q₁ := fun obj s₁ => obj = .ref s.heap.objs.size ∧ s₁ = { s with heap := s.heap.push { cls := .type "set", dict := none, data := .set #[] 0 (.fresh 0 0 (!w.params.followText "set-order")) } }) ⟨rfl, rfl⟩) fun r s₁ hr => ?_
  cases r with
  | error e => exact hr
  | ok fl =>
    cases fl with
    | ret obj =>
      obtain ⟨rfl, rfl⟩ := hr
      have hS : (s.heap.push { cls := .type "set", dict := none, data := .set #[] 0 (.fresh 0 0 (!w.params.followText "set-order")) }).get? s.heap.objs.size = some { cls := .type "set", dict := none, data := .set #[] 0 (.fresh 0 0 (!w.params.followText "set-order")) } := Heap.get?_push_size _ rfl
      have hT : Shared.TypeIs { s with heap := s.heap.push { cls := .type "set", dict := none, data := .set #[] 0 (.fresh 0 0 (!w.params.followText "set-order")) } } (.ref s.heap.objs.size) "set" := ⟨_, hS, rfl⟩
      have hli := F.called_set.init.lookup
      have hbi := F.called_set.init.bind (.ref s.heap.objs.size)
      repeat (any_goals (first | assumption | wp_step))

      refine codeAny_mono (codeAny_call_builtin (R := wants (fun r s₂ => r = .none ∧ ∃ h' tk c, s₂ = { s with heap := h', toks := tk } ∧ SetR w h' s.heap.objs.size (fun j => decide (j ∈ ns)) c ∧ c ≤ ns.length ∧
          (∀ b o, s.heap.get? b = some o → h'.get? b = some o)) E) F.called_set.init.plain F.entry_set_init (check_set_init_1 hT ?_)) fun r₂ s₂ hr₂ => ?_
      · obtain ⟨ol, hol, hcl, nl, hdl⟩ := hl
        obtain ⟨ocls, odict, odata, oslots⟩ := ol
        simp only at hcl hdl
        subst hcl; subst hdl
        have hol' : (s.heap.push { cls := .type "set", dict := none, data := .set #[] 0 (.fresh 0 0 (!w.params.followText "set-order")) }).get? l = some { cls := .type "list", dict := odict, data := .seq items nl, slots := oslots } := Heap.get?_push_of_some _ hol
        have hsls := F.sub_list_set
        have hslf := F.sub_list_frozenset
        have hne : (Value.type "list" == Value.type "dict") = false := by decide
        have hl1 : (s.heap.push { cls := .type "set", dict := none, data := .set #[] 0 (.fresh 0 0 (!w.params.followText "set-order")) }).IsList l items := ⟨_, hol', rfl, nl, rfl⟩
        unfold Builtin.«set.__init__» noKeywords Builtin.Frozenset.updateFrom
        generalize hPI : pyIter = PI
        wp_walk
        subst hPI

        refine wpAny_pyIter_list hl1 ?_
        refine wpAny_bind (wpAny_runValue ?_)
        have hlS : l < s.heap.objs.size := Heap.lt_size hol
        have hh3 : A.in1.in1.in1.handled = none := by simp [hh]
        have hz1 : (s.heap.push { cls := .type "set", dict := none, data := .set #[] 0 (.fresh 0 0 (!w.params.followText "set-order")) }).objs.size = s.heap.objs.size + 1 := Heap.size_push ..
        have hneI : l ≠ (s.heap.push { cls := .type "set", dict := none, data := .set #[] 0 (.fresh 0 0 (!w.params.followText "set-order")) }).objs.size := by
          rw [Heap.size_push]; exact Nat.ne_of_lt (Nat.lt_succ_of_lt hlS)
        have hSf : s.heap.objs.size ∉ [(s.heap.push { cls := .type "set", dict := none, data := .set #[] 0 (.fresh 0 0 (!w.params.followText "set-order")) }).objs.size, l] := by
          rw [Heap.size_push]; simp only [List.mem_cons, List.mem_singleton, List.not_mem_nil, or_false, not_or]
          exact ⟨Nat.ne_of_lt (Nat.lt_succ_self _), Nat.ne_of_gt hlS⟩
        have hval : ∀ (i : Nat) (v : Value), items[i]? = some v → ∃ k t, ns[i]? = some k ∧ v = .int k t := fun i v hv => by
          have hi : i < ns.length := by rw [← hisz]; exact (Array.getElem?_eq_some_iff.mp hv).1
          obtain ⟨t, e⟩ := PyProof.Rows.IntsAre.int_at hit i v (by rw [Array.getElem?_toList]; exact hv)
          refine ⟨ns[i], t, List.getElem?_eq_getElem hi, ?_⟩
          rw [e, List.getD_eq_getElem?_getD, List.getElem?_eq_getElem hi] <;> rfl
        refine set_update_ints ((Walks.list hh3 _ l hneI items).toS) s.heap.objs.size
          hSf ns hisz hb hval (items.size - 0) 0 _ (by omega) (Nat.zero_le _)
          ⟨⟨_, Heap.get?_push_size _ rfl, rfl, rfl⟩, hl1.push _⟩ ?hS0 ?hR
        case hS0 =>
          have hget : ((s.heap.push { cls := .type "set", dict := none, data := .set #[] 0 (.fresh 0 0 (!w.params.followText "set-order")) }).push { cls := .type "list_iterator", data := .fields #[.ref l, .int 0 0] }).get? s.heap.objs.size
              = some { cls := .type "set", dict := none, data := .set #[] 0 (.fresh 0 0 (!w.params.followText "set-order")) } := Heap.get?_push_of_some _ hS
          exact ⟨0, Nat.le_refl 0, setR_new_at hget⟩
        case hR =>
          intro s' c' hm hc' hS'
          obtain ⟨h', g2, d', tk', os'⟩ := s'
          have eg : g2 = s.gens := hm.gens
          have ed : d' = s.drawn := hm.drawn
          have eo : os' = s.os := hm.os
          subst eg; subst ed; subst eo
          show wpAny _ _ _ _ _ _
          refine wpAny_pure ?_
          show wpAny _ _ (ret Value.none) _ _ _
          rw [hisz] at hc'
          refine wpAny_pure ⟨rfl, h', tk', c', rfl, hS', hc', fun b o e => ?_⟩
          have hb0 : b < s.heap.objs.size := Heap.lt_size e
          have hb1 : b ≠ s.heap.objs.size := Nat.ne_of_lt hb0
          have hb2 : b ≠ (s.heap.push { cls := .type "set", dict := none, data := .set #[] 0 (.fresh 0 0 (!w.params.followText "set-order")) }).objs.size := by
            rw [Heap.size_push]; exact Nat.ne_of_lt (Nat.lt_succ_of_lt hb0)
          exact hm.heap b o (by simp only [List.mem_cons, List.mem_singleton, List.not_mem_nil, or_false, not_or]; exact ⟨hb1, hb2⟩) (Heap.get?_push_of_some _ (Heap.get?_push_of_some _ e))

      · cases r₂ with
        | error e => exact hr₂
        | ok fl₂ =>
          cases fl₂ with
          | ret r =>
            obtain ⟨rfl, h', tk, c', rfl, hS', hc', hk'⟩ := hr₂
            repeat (any_goals (first | assumption | wp_step))
            exact h _ _ _ hS' hc' hk'
          | _ => exact hr₂.elim
    | _ => exact hr.elim
end
end Mm
namespace Mm
open PySem PySem.Spec PyProof.Rows L2
def vSumL (ds : List D) (hs : Hs) : R D := match ((one1 ds).bind fun d => listOf d hs).bind intsOf with
  | some ns => .ok (.int ns.sum) hs
  | none => .bad
def prOfT : D → Option (List Mm.Key × D)
  | .t [k, v] => (keysOf k).map fun q => (q, v)
  | _ => none
def prsOfT : List D → Option (List (List Mm.Key × D))
  | [] => some []
  | d :: ds => match prOfT d, prsOfT ds with
    | some p, some r => some (p :: r)
    | _, _ => none
def dmergeT (kvs : List (List Mm.Key × D)) : List (List Mm.Key × D) → List (List Mm.Key × D)
  | [] => kvs
  | p :: r => dmergeT (dput kvs p.1 p.2) r
def vDictT (ds : List D) (hs : Hs) : R D := match one1 ds with
  | some d => match (listOf d hs).bind prsOfT with
    | some kvs => .ok (.loc hs.length) (hs ++ [.dt (dmergeT [] kvs)])
    | none => .bad
  | none => .bad
def vLenSetL (d : D) (hs : Hs) : R D := match (listOf d hs).bind intsOf with
  | some ns => if ns.length ≤ 4000 ∧ ns.Nodup then .ok (.int ns.length) hs else .bad
  | none => .bad
open Classical in
def forK (n : Nat) (o : O) (j1 j2 : Nat) (body : MS) : List (List Mm.Key) → MS
  | [], fs, hs => if hs[n]? = some o then .nx fs hs else .bad
  | [k1, k2] :: r, fs, hs => if hs[n]? = some o then (match body ((fs.set j1 (some (keyOb k1))).set j2 (some (keyOb k2))) hs with
      | .nx fs2 h2 => forK n o j1 j2 body r fs2 h2
      | .cnt fs2 h2 => forK n o j1 j2 body r fs2 h2
      | _ => .bad) else .bad
  | _, _, _ => .bad
/-- the dict stands locked while it is walked; the loop leaves all objects as they were; what the names stand for is forgotten behind -/
def LoopK (n : Nat) (kvs : List (List Mm.Key × D)) (j1 j2 : Nat) (body : MS) (fs : Fs) (hs : Hs) : Prop := ∀ ho : L2.HO, ∃ fs', forK n (.lt kvs ho) j1 j2 body (kvs.map (·.1)) fs (hs.set n (.lt kvs ho)) = .nx fs' (hs.set n (.lt kvs ho)) ∧ fs'.length = fs.length
open Classical in
def sForDT (i j1 j2 : Nat) (body : MS) : MS := fun fs hs => match fs[i]? with
  | some (some (.loc n)) => match hs[n]? with
    | some (.dt kvs) => if LoopK n kvs j1 j2 body fs hs then .nx (fs.map fun _ => none) hs else .bad
    | _ => .bad
  | _ => .bad
section
variable {c : Ct} {X : Cx} {W : WX}
theorem jc_sumL (hc : X.calm = true) : JC c X (.builtin "sum") vSumL := by
  refine ⟨_, cr_sum hc, fun w hs ds vs Q E S r h => ?_⟩
  unfold vSumL at h
  split at h
  · rename_i ns e
    cases e1 : one1 ds with
    | none => rw [e1] at e; cases e
    | some d =>
      obtain rfl := one1_some e1
      rw [e1] at e
      obtain ⟨v, rfl, rd⟩ := rps1 r
      cases el : listOf d hs with
      | none => simp [el] at e
      | some es =>
        have e' : intsOf es = some ns := by simpa [el] using e
        obtain ⟨b, vs, rfl, q, rr⟩ := listOf_at S el rd
        exact ⟨b, ns, rfl, by rw [← intsOf_rps e' rr]; exact SqL.of q, h.now S _ rfl⟩
  · exact h.elim
def mergeKT (kvs : List (List L2.Key × V)) : List (List L2.Key × V) → List (List L2.Key × V)
  | [] => kvs
  | p :: r => mergeKT (putK kvs p.1 p.2) r
theorem length_mergeKT : ∀ (more kvs : List (List L2.Key × V)), (mergeKT kvs more).length ≤ kvs.length + more.length
  | [], kvs => Nat.le_refl _
  | p :: r, kvs => by
    have h := length_mergeKT r (putK kvs p.1 p.2)
    have h2 := length_putK kvs p.1 p.2
    show (mergeKT (putK kvs p.1 p.2) r).length ≤ _
    simp only [List.length_cons]
    omega
def PrT (K : PySem.W.Frag) (H : Hp) : List Addr → List (List L2.Key × V) → Prop := Paired fun p kv => ∃ q, SqT K H p [.ref q, kv.2] ∧ H q = some (.tup (kv.1.map kV))
theorem pairsT_of {pins : List (Addr × Obj)} {σ : L2.St} {H : Hp} {s : Shared} (I : Inv X pins σ H s) : ∀ {ps : List Addr} {kvs : List (List L2.Key × V)}, PrT X.K H ps kvs →
    ∃ xs : List (List L2.Key × Addr × Value), KT H kvs xs ∧ xs.length = ps.length ∧ ∀ (j : Nat) (q : List L2.Key × Addr × Value), xs[j]? = some q → ∃ b : Addr, ps[j]? = some b ∧ IsTup s.heap b #[.ref q.2.1, q.2.2]
  | _, _, .nil => ⟨[], .nil, rfl, fun j q e => by simp at e⟩
  | _, _, .cons (a := p) (b := kv) h t => by
    obtain ⟨xs, r, hl, hp⟩ := pairsT_of I t
    obtain ⟨a, h1, h2⟩ := h
    obtain ⟨its, rv, ht, _⟩ := I.tuple h1
    obtain ⟨u, y, ei, ru, ry⟩ := vals2 rv
    subst ei
    cases ru
    refine ⟨(kv.1, a, y) :: xs, .cons ⟨rfl, h2, ry⟩ r, by rw [List.length_cons, List.length_cons, hl], fun j q e => ?_⟩
    cases j with
    | zero =>
      have e' : (kv.1, a, y) = q := Option.some.inj e
      subst e'
      exact ⟨p, rfl, ht⟩
    | succ j =>
      obtain ⟨b, e1, e2⟩ := hp j q (by simpa using e)
      exact ⟨b, by simpa using e1, e2⟩
theorem KT.merge {H : Hp} : ∀ {more kvs : List (List L2.Key × V)} {ys xs : List (List L2.Key × Addr × Value)}, KT H more ys → KT H kvs xs → KT H (mergeKT kvs more) (storedAllH xs ys)
  | _, kvs, _, xs, .nil, h => h
  | _, kvs, _, xs, .cons (a := p) (b := q) h t, k => by
    obtain ⟨h1, h2, h3⟩ := h
    show KT H (mergeKT (putK kvs p.1 p.2) _) (storedAllH (storedH xs q.1 q.2.1 q.2.2) _)
    rw [← h1]
    exact KT.merge t (k.put p.1 h2 h3)
theorem kt_keys {H : Hp} {s : Shared} {P : Program} {w : World} (ok : HOk P w H s.heap) : ∀ {kvs : List (List L2.Key × V)} {xs : List (List L2.Key × Addr × Value)}, KT H kvs xs → ∀ x ∈ xs, (tupleKind (mixKind P w)).is s.heap x.1 x.2.1
  | _, _, .nil, x, hx => nomatch hx
  | _, _, .cons (a := p) (b := q) h t, x, hx => by
    rcases List.mem_cons.mp hx with e | hx
    · subst e
      exact key_of ok (by rw [← h.1]; exact h.2.1)
    · exact kt_keys ok t x hx
theorem call_dictTP (hcalm : X.calm = true) (hu : X.A.units + 64 < cLine) : CallR X (.type "dict") (fun xs H Q => ∃ (a : Addr) (ps : List Addr) (kvs : List (List L2.Key × V)), xs = [.ref a] ∧ SqL X.K H a (ps.map V.ref) ∧ PrT X.K H ps kvs ∧
    ∀ p, H p = none → Q (.ref p) (upd H p (.dT (mergeKT [] kvs)))) := by
  intro pins s σ H xs us Q I r q
  obtain ⟨a, ps, kvs, ex, hq, hp, q⟩ := q
  subst ex
  obtain ⟨u, eu, rx⟩ := vals1 r
  subst eu
  cases rx
  obtain ⟨its, rv, pl, hz⟩ := I.list hq
  have ei := refs_at rv
  subst ei
  rw [List.length_map] at hz
  obtain ⟨ys, rel, hl, hpr⟩ := pairsT_of I hp
  have hks := kt_keys I.hok rel
  obtain ⟨o, n, ho, hc, hd, hdat⟩ := pl
  let prs : List (Value × Value) := ys.map fun x => (.ref x.2.1, x.2.2)
  have hpl : prs.length = ys.length := by simp [prs]
  refine call_dict_pairsH (knd := tupleKind (mixKind X.prog X.w)) (ps := ys) (PairArg.list a (ps.map Value.ref).toArray (fun j => (ps[j]?).getD 0) prs) (I.ok.hd hcalm) (by show X.A.units + 1 + 1 < cLine; omega) ⟨⟨o, n, ho, hc, hd, hdat⟩, by simp [prs, hl], fun j k v e => ?_⟩ ⟨hpl.symm, fun i key v e => ?_⟩ (fun h' hk x hx => ?_) (by rw [hpl, hl]; exact hz) fun h' tk hd' k => ?_
  · obtain ⟨x, ex⟩ : ∃ x, ys[j]? = some x := by
      cases ex : ys[j]? with
      | none => have e' : prs[j]? = some (k, v) := e; simp [prs, ex] at e'
      | some x => exact ⟨x, rfl⟩
    obtain ⟨b, e1, e3⟩ := hpr j x ex
    have : (k, v) = (Value.ref x.2.1, x.2.2) := by
      have z : prs[j]? = some (.ref x.2.1, x.2.2) := by simp [prs, ex]
      rw [z] at e; exact (Option.some.inj e).symm
    cases this
    refine ⟨by simp [e1], .inl ?_⟩
    show s.heap.IsTuple (ps[j]?.getD 0) _
    rw [e1]
    exact e3
  · have e' : prs[i]? = some (key, v) := e
    cases ex : ys[i]? with
    | none => simp [prs, ex] at e'
    | some x =>
      have z : prs[i]? = some (.ref x.2.1, x.2.2) := by simp [prs, ex]
      rw [z] at e'
      cases Option.some.inj e'
      exact ⟨x.1, x.2.1, rfl, rfl⟩
  · exact tupleKind_stays.stays (fun b o vs n e _ => hk b o (Nat.ne_of_lt (Heap.lt_size e)) (fun z => nomatch z) e) (hks x hx)
  · have hm : (s.heap.objs.size == sysModules) = false := beq_eq_false_iff_ne.mpr (Nat.ne_of_gt I.big)
    have hlen : (mergeKT [] kvs).length ≤ sizeLine := by
      refine Nat.le_trans (length_mergeKT kvs []) ?_
      rw [List.length_nil, Nat.zero_add, Paired.length rel, hl]
      exact hz
    have hn : H s.heap.objs.size = none := I.hok.fresh (Nat.le_refl _)
    have hkt : KT (upd H s.heap.objs.size (.dT (mergeKT [] kvs))) (mergeKT [] kvs) (storedAllH [] ys) := (KT.merge rel .nil).keeps fun b xs e => by rw [upd_ne (ne_of_none e hn)]; exact e
    obtain ⟨oo, es, ep, g1, g2, g3, g4, _, g5⟩ := hd'
    exact ⟨.ref s.heap.objs.size, upd H s.heap.objs.size (.dT (mergeKT [] kvs)), I.laid (t' := tk) (fun b o e => k b o (fun z => nomatch z) e) (Nat.le_refl _) (show ObjOk X.prog X.w _ _ _ (.dT (mergeKT [] kvs)) from ⟨hlen, hm, storedAllH [] ys, hkt, oo, es, ep, g1, g2, g3, g4, g5⟩), rfl, q _ hn⟩
theorem prOfT_some {d : D} {p : List Mm.Key × D} (h : prOfT d = some p) : ∃ ks, d = .t [.t ks, p.2] ∧ ks.mapM keyOf = some p.1 := by
  unfold prOfT at h
  split at h
  · rename_i k v
    unfold keysOf at h
    split at h
    · rename_i ks
      cases e : ks.mapM keyOf with
      | none => rw [e] at h; cases h
      | some q => rw [e] at h; cases h; exact ⟨ks, rfl, e⟩
    · cases h
  · cases h
theorem prsT_at {K : PySem.W.Frag} {w : Wd} {hs : Hs} (S : SR c w hs) : ∀ {ds : List D} {kvs : List (List Mm.Key × D)} {vs : List V}, prsOfT ds = some kvs → Rps c w.ρ w.F ds vs → ∃ (ps : List Addr) (us : List (List L2.Key × V)), vs = ps.map V.ref ∧ PrT K w.H ps us ∧ KR c w.ρ w.F kvs us
  | [], kvs, vs, h, r => by
    unfold prsOfT at h
    cases h
    unfold Rps at r
    subst r
    exact ⟨[], [], rfl, .nil, KR.nil⟩
  | d :: ds, kvs, vs, h, r => by
    unfold prsOfT at h
    unfold Rps at r
    obtain ⟨v, r', rfl, r1, r2⟩ := r
    cases e1 : prOfT d with
    | none => simp only [e1] at h; cases h
    | some p =>
      cases e2 : prsOfT ds with
      | none => simp only [e1, e2] at h; cases h
      | some q =>
        simp only [e1, e2] at h
        cases h
        obtain ⟨ps, us, rfl, P, k⟩ := prsT_at (K := K) S e2 r2
        obtain ⟨ks, rfl, ek⟩ := prOfT_some e1
        unfold Rp at r1
        obtain ⟨a, xs, rfl, qa, ra⟩ := r1
        obtain ⟨u1, u2, rfl, z1, z2⟩ := rps2 ra
        unfold Rp at z1
        obtain ⟨b, ws, rfl, qb, rb⟩ := z1
        have ek2 := keys_at ek rb
        exact ⟨a :: ps, (p.1, u2) :: us, rfl, .cons ⟨b, SqT.of (S.sub _ _ qa), by rw [← ek2]; exact S.sub _ _ qb⟩ P, KR.cons rfl z2 k⟩
theorem KR.mergeT {ρ : List Addr} {F : Hp} : ∀ {more kvs : List (List Mm.Key × D)} {us vs : List (List L2.Key × V)}, KR c ρ F more us → KR c ρ F kvs vs → KR c ρ F (dmergeT kvs more) (mergeKT vs us)
  | [], kvs, us, vs, h, k => by rw [h.inv0]; exact k
  | p :: r, kvs, us, vs, h, k => by
    obtain ⟨q, s, rfl, e, rp, h'⟩ := h.inv
    show KR c ρ F (dmergeT (dput kvs p.1 p.2) r) (mergeKT (putK vs q.1 q.2) s)
    rw [e]
    exact KR.mergeT h' (k.put p.1 rp)
theorem jc_dictT (hc : X.calm = true) (hu : X.A.units + 64 < cLine) : JC c X (.type "dict") vDictT := by
  refine ⟨_, call_dictTP hc hu, fun w hs ds vs Q E S r h => ?_⟩
  unfold vDictT at h
  cases e : one1 ds with
  | none => simp only [e] at h; exact h.elim
  | some d =>
    simp only [e] at h
    obtain rfl := one1_some e
    obtain ⟨v, rfl, rd⟩ := rps1 r
    cases e2 : listOf d hs with
    | none => simp only [e2, Option.bind_none] at h; exact h.elim
    | some es =>
      simp only [e2, Option.bind_some] at h
      cases e3 : prsOfT es with
      | none => simp only [e3] at h; exact h.elim
      | some kvs =>
        simp only [e3] at h
        obtain ⟨a, ws, rfl, qa, ra⟩ := listOf_at S e2 rd
        obtain ⟨ps, us, rfl, P, k⟩ := prsT_at (K := X.K) S e3 ra
        refine ⟨a, ps, us, rfl, SqL.of qa, P, fun p hp => ?_⟩
        have km := KR.mergeT k (KR.nil (c := c) (ρ := w.ρ) (F := w.F) (κ := List Mm.Key))
        obtain ⟨l, S'⟩ := S.push (o := .dt (dmergeT [] kvs)) (ho := .dT (mergeKT [] us)) hp ⟨_, rfl, km.1, km.2⟩
        exact h _ l S' (.ref p) (rp_push S)
def tLenSetL (K : PySem.W.Frag) (ta : TE) : TE := fun σ H Q => ta σ H fun x H1 => ∃ (l : Addr) (ns : List Int), x = .ref l ∧ SqL K H1 l (ns.map V.int) ∧ ns.Nodup ∧ ns.length ≤ 4000 ∧ Q (.int (ns.length : Nat)) H1
theorem pe_lenSetL {a : Expr} {ta : TE} {p p2 q pos : Pos} (hg : Gl X "len") (hm : X.mg "len" = none) (hg2 : Gl X "set") (hm2 : X.mg "set" = none) (ha : PE X a ta) (hc : X.calm = true)
    (na : starEach [a] X.env = (false, eval a X.env) :: starEach [] X.env := by rfl) : PE X (.Call (.Name "len" p) [.Call (.Name "set" p2) [a] [] q] [] pos) (tLenSetL X.K ta) := by
  refine ⟨fun pins s σ H Q I h => ?_⟩
  refine Call_ (ld_blt I hg hm PySem.boot_len ?_)
  refine PyProof.Rows.callWith_builtin1 (PyProof.Rows.args_cons ?_ rfl) rfl rfl
  refine Call_ (ld_blt I hg2 hm2 PyProof.Rows.boot_set ?_)
  refine PyProof.Rows.callWith_type1 (PyProof.Rows.args_cons (thn (ha.run pins s σ H _ I h) fun v s1 ⟨x, H1, I1, r1, q1⟩ => PyProof.Rows.args_nil ?_) na) na rfl
  obtain ⟨l, ns, rfl, hq, hnd, hl, q1⟩ := q1
  cases r1
  obtain ⟨its, r, pl, hz⟩ := I1.list hq
  refine call_set_lstI ns (I1.ok.hd hc) pl.isList (by simpa using intsAre_ns r) (by unfold scanBound; omega) fun h' tk n hS hn hk => ?_
  refine PyProof.Rows.args_nil ?_
  obtain ⟨o, es, ep, t, ho, hex, hd, hg0, nd, hmem, hb, hf, en, _⟩ := hS
  have I2 : Inv X pins σ H1 { s1 with heap := h', toks := tk } := I1.kept hk
  have el : n = ns.length := by
    have pm : (es.toList.map L2.keyOf).Perm ns := (List.perm_ext_iff_of_nodup nd hnd).mpr fun k => by
      rw [← hmem k]; simp
    have := pm.length_eq
    simp at this
    omega
  exact call_len_set ho hex hd hf (by omega) ⟨.int ns.length, H1, I2.tok _, ⟨_, by rw [en, el]⟩, q1⟩
theorem je_lenSetL {a : Expr} {ma : M} {p p2 q pos : Pos} (hc : X.calm = true) (hg : Gl X "len") (hm : X.mg "len" = none) (hg2 : Gl X "set") (hm2 : X.mg "set" = none) (ha : JE c X W a ma) (na : starEach [a] X.env = (false, eval a X.env) :: starEach [] X.env := by rfl) :
    JE c X W (.Call (.Name "len" p) [.Call (.Name "set" p2) [a] [] q] [] pos) (eUn vLenSetL ma) := by
  obtain ⟨ta, pa, sa⟩ := ha.ex
  refine ⟨_, pe_lenSetL hg hm hg2 hm2 pa hc na, fun w fs hs σ Q S E h => ?_⟩
  refine sa w fs hs σ _ S E (h.bind.imp fun x h1 w1 l1 S1 p1 v1 r1 => ?_)
  unfold vLenSetL at p1
  split at p1
  · rename_i ns e
    split at p1
    · rename_i hn
      cases el : listOf x h1 with
      | none => rw [el] at e; cases e
      | some es =>
        rw [el] at e
        have e' : intsOf es = some ns := e
        obtain ⟨b, vs, rfl, q, rr⟩ := listOf_at S1 el r1
        exact ⟨b, ns, rfl, by rw [← intsOf_rps e' rr]; exact SqL.of q, hn.2, hn.1, p1.now S1 _ rfl⟩
    · exact p1.elim
  · exact p1.elim
theorem js_forDT (i j1 j2 : Nat) {dn x1 x2 : Str} {pd p1 p2 pt pos : Pos} {k : Nat} {body : List Stmt} {m : MS} (hp : PassesOwn (model X.prog X.w) X.A X.env X.xe) (hc : X.calm = true) (hd : PE X (.Name dn pd) (tVar i)) (h1 : PG X (.Name x1 p1) (L2.gName j1)) (h2 : PG X (.Name x2 p2) (L2.gName j2)) (hb : JSs c X W body m) :
    JS c X W (.For (.Tuple [.Name x1 p1, .Name x2 p2] k pt) (.Name dn pd) body [] pos) (sForDT i j1 j2 m) := by
  obtain ⟨tb, pb, sb⟩ := hb.ex
  refine ⟨_, ps_lock (ps_for hp hc (pi_keys hd) (pg_tup hc (pgs_cons h1 (pgs_cons h2 pgs_nil)) rfl rfl) pb (fun _ => rfl)), fun w fs hs σ De S E h => ?_⟩
  unfold sForDT at h
  split at h
  · rename_i n e1
    split at h
    · rename_i kvs e2
      split at h
      · rename_i hK
        obtain ⟨va, sa, ra⟩ := E.get e1
        unfold Rp at ra
        obtain ⟨a, rfl, qa⟩ := ra
        obtain ⟨ho, e4, us, rfl, k1, rr⟩ := loc_at S qa e2
        refine ⟨a, .dT us, e4, trivial, fun od => ?_⟩
        have eL : upd w.H a (.frz od (.dT us)) a = some (.frz od (.dT us)) := upd_same
        obtain ⟨fs9, hF, hlen⟩ := hK (.frz od (.dT us))
        obtain ⟨l0, S0⟩ := S.put (o := .lt kvs (.frz od (.dT us))) (ho := .frz od (.dT us)) qa ⟨_, e2, fun z => nomatch z⟩ ⟨rfl, od, us, rfl, k1, rr⟩
        have kl : us.length = kvs.length := by have := congrArg List.length k1; simpa using this
        have hn : n < hs.length := (List.getElem?_eq_some_iff.mp e2).1
        have lkd : ∀ {w2 : Wd} {hs2 : Hs}, (⟨w.ρ, w.F, upd w.H a (.frz od (.dT us))⟩ : Wd).le w2 → SR c w2 hs2 → hs2[n]? = some (.lt kvs (.frz od (.dT us))) → w2.H a = some (.frz od (.dT us)) := by
          intro w2 hs2 l2 S2 e5
          obtain ⟨ho2, e7, e8, _⟩ := loc_at S2 (rho_le l2 qa) e5
          rw [e7, e8]
        refine ⟨.ref a, sa, a, od, rfl, .inr ⟨us, eL, ?_⟩⟩
        refine ⟨fun i mm σ' H => ∃ w' fs' hs', (⟨w.ρ, w.F, upd w.H a (.frz od (.dT us))⟩ : Wd).le w' ∧ w'.H = H ∧ SR c w' hs' ∧ RE c w' fs' σ' ∧ i ≤ kvs.length ∧ mm = kvs.length - i ∧ forK n (.lt kvs (.frz od (.dT us))) j1 j2 m ((kvs.map (·.1)).drop i) fs' hs' = .nx fs9 (hs.set n (.lt kvs (.frz od (.dT us)))), ⟨_, ⟨w.ρ, w.F, upd w.H a (.frz od (.dT us))⟩, fs, _, Wd.le.refl _, rfl, S0, E.le l0, Nat.zero_le _, rfl, by rw [List.drop_zero]; exact hF⟩, ?_⟩
        rintro i mm σ' H ⟨w', fs', hs', lw, rfl, S', E', hi, rfl, q⟩
        by_cases hil : i < kvs.length
        · have ed : (kvs.map (·.1)).drop i = (kvs[i]).1 :: (kvs.map (·.1)).drop (i + 1) := by
            rw [List.drop_eq_getElem_cons (by simpa using hil)]; simp
          rw [ed] at q
          have hiu : i < us.length := by omega
          have ku : (us[i]).1 = (kvs[i]).1 := by
            have := congrArg (fun l => l[i]?) k1
            simpa [List.getElem?_map, List.getElem?_eq_getElem hiu, List.getElem?_eq_getElem hil] using this
          rcases hk : (kvs[i]).1 with _ | ⟨ka, _ | ⟨kb, _ | ⟨kc, kr⟩⟩⟩
          · rw [hk] at q; unfold forK at q; cases q
          · rw [hk] at q; unfold forK at q; cases q
          · rw [hk] at q
            unfold forK at q
            split at q
            · rename_i hst
              have hlk2 := lkd lw S' hst
              refine .inr ⟨⟨hlk2, hiu⟩, fun σ2 H2 => ∃ w2 fs2 hs2, (⟨w.ρ, w.F, upd w.H a (.frz od (.dT us))⟩ : Wd).le w2 ∧ w2.H = H2 ∧ SR c w2 hs2 ∧ RE c w2 fs2 σ2 ∧ i + 1 ≤ kvs.length ∧ forK n (.lt kvs (.frz od (.dT us))) j1 j2 m ((kvs.map (·.1)).drop (i + 1)) fs2 hs2 = .nx fs9 (hs.set n (.lt kvs (.frz od (.dT us)))), fun σ2 H2 ⟨w2, fs2, hs2, z1, z2, z3, z4, z5, z6⟩ => ⟨kvs.length - (i + 1), by omega, w2, fs2, hs2, z1, z2, z3, z4, z5, rfl, z6⟩, fun x H' hx => ?_⟩
              obtain ⟨rfl, kk, vv, p, hkv, rfl, hp⟩ := hx
              have ekk : kk = [ka, kb] := by
                rw [List.getElem?_eq_getElem hiu] at hkv
                have := Option.some.inj hkv
                rw [← hk, ← ku, this]
              subst ekk
              refine ⟨p, _, rfl, SqT.of hp, rfl, _, _, rfl, _, _, rfl, rfl, ?_⟩
              have E3 : RE c w' ((fs'.set j1 (some (keyOb ka))).set j2 (some (keyOb kb))) ((σ'.set j1 (some (kV ka))).set j2 (some (kV kb))) := (E'.set (keyOb_rp ka)).set (keyOb_rp kb)
              refine sb w' _ hs' _ _ S' E3 ?_
              cases qb : m ((fs'.set j1 (some (keyOb ka))).set j2 (some (keyOb kb))) hs' with
              | nx fs4 h4 =>
                rw [qb] at q
                exact fun w4 σ4 l4 S4 E4 => ⟨w4, fs4, h4, lw.trans l4, rfl, S4, E4, hil, q⟩
              | cnt fs4 h4 =>
                rw [qb] at q
                exact fun w4 σ4 l4 S4 E4 => ⟨w4, fs4, h4, lw.trans l4, rfl, S4, E4, hil, q⟩
              | ret d h4 => rw [qb] at q; cases q
              | brk fs4 h4 => rw [qb] at q; cases q
              | exc x p fs4 h4 => rw [qb] at q; cases q
              | bad => rw [qb] at q; cases q
            · cases q
          · rw [hk] at q; unfold forK at q; cases q
        · have e0 : i = kvs.length := by omega
          subst e0
          rw [List.drop_eq_nil_of_le (by simp)] at q
          unfold forK at q
          split at q
          · rename_i hst
            have e6 := lkd lw S' hst
            cases q
            refine .inl ⟨⟨e6, by omega⟩, e6, ?_⟩
            obtain ⟨ho2, e7, e8, _, us2, e9, k3, r3⟩ := loc_at S' (rho_le lw qa) hst
            have e10 : us2 = us := by
              rw [e8] at e9
              cases e9; rfl
            subst e10
            obtain ⟨l3, S3⟩ := S'.put (o := .dt kvs) (ho := .dT us2) (rho_le lw qa) ⟨_, hst, fun z => nomatch z⟩ ⟨us2, rfl, k3, r3⟩
            have ehs : (hs.set n (.lt kvs (.frz od (.dT us2)))).set n (.dt kvs) = hs := by
              rw [List.set_set]
              apply List.ext_getElem?
              intro j
              by_cases hj : j = n
              · subst hj; rw [List.getElem?_set_self hn, e2]
              · rw [List.getElem?_set_ne (Ne.symm hj)]
            rw [ehs] at S3
            refine h ⟨w'.ρ, w'.F, upd w'.H a (.dT us2)⟩ σ' ((l0.trans lw).trans l3) S3 ⟨by rw [List.length_map, ← hlen]; exact E'.1, fun i d e => ?_⟩
            rw [List.getElem?_map] at e
            cases q3 : fs[i]? <;> simp [q3] at e
          · cases q
      · exact h.elim
    · exact h.elim
  · exact h.elim
end
end Mm
namespace Mm
def body_law_0 : MS := (sAsg (eArgs c_best_way (aCons (eVar 2) (aCons (eVar 5) (aCons (eVar 6) aNil)))) (Mm.gSub setIx (eVar 4) (eArgs vTup (aCons (eVar 5) (aCons (eVar 6) aNil)))))
def body_law_1 : MS := (sFor (Mm.iRng1 (aCons (eC (.int 10)) aNil)) (Mm.gName 6) body_law_0)
def body_law_2 : MS := (sSeq (sIf (tVal (eBin vNe (eBin vIxD (eVar 4) (eArgs vTup (aCons (eVar 5) (aCons (eBin vIx (eVar 12) (eVar 8)) aNil)))) (eArgs vTup (aCons (eArgs vSumL (aCons (eSl vSl (eVar 7) oNone (oSome (eVar 8))) aNil)) (aCons (eSl vSl (eVar 12) oNone (oSome (eBin vAdd (eVar 8) (eC (.int 1))))) aNil))))) (sRet (eC (.bl false))) sNx)
  (sIf (tVal (eBin vNe (eBin vIx (eBin vIxD (eVar 4) (eArgs vTup (aCons (eBin vIx (eVar 12) (eVar 8)) (aCons (eVar 6) aNil)))) (eC (.int 0))) (eArgs vSumL (aCons (eSl vSl (eVar 7) (oSome (eVar 8)) oNone) aNil)))) (sRet (eC (.bl false))) sNx))
def body_law_3 : MS := (sIf (tVal (eBin (onN vNotN) (eBin vIxD (eVar 4) (eArgs vTup (aCons (eVar 6) (aCons (eVar 9) aNil)))) (eC .non))) (sSeq (sAsg (eBin vIxD (eVar 4) (eArgs vTup (aCons (eVar 5) (aCons (eVar 9) aNil)))) (Mm.gName 13))
  (sIf (tOr (tVal (eBin (onN vIsN) (eVar 13) (eC .non))) (tVal (eBin vGt (eBin vIx (eVar 13) (eC (.int 0))) (eBin vAdd (eVar 11) (eBin vIx (eBin vIxD (eVar 4) (eArgs vTup (aCons (eVar 6) (aCons (eVar 9) aNil)))) (eC (.int 0))))))) (sRet (eC (.bl false))) sNx)) sNx)
def body_law_4 : MS := (sIf (tVal (eBin (onN vNotN) (eBin vIxD (eVar 4) (eArgs vTup (aCons (eVar 5) (aCons (eVar 6) aNil)))) (eC .non))) (sSeq (sAsg (eBin vIxD (eVar 4) (eArgs vTup (aCons (eVar 5) (aCons (eVar 6) aNil)))) (Mm.gTup (Mm.gCons (Mm.gName 11) (Mm.gCons (Mm.gName 12) Mm.gNil))))
  (sSeq (sIf (tOr (tVal (eBin vNe (eBin vIx (eVar 12) (eC (.int 0))) (eVar 5))) (tOr (tVal (eBin vNe (eBin vIx (eVar 12) (eUn vNeg (eC (.int 1)))) (eVar 6))) (tVal (eBin vNe (eUn vLenSetL (eVar 12)) (eArgs vLen (aCons (eVar 12) aNil)))))) (sRet (eC (.bl false))) sNx)
  (sSeq (sAsg (eLc [8] (Mm.iRng2 (aCons (eC (.int 1)) (aCons (eArgs vLen (aCons (eVar 12) aNil)) aNil))) (Mm.gName 8) tYes (eBin vIxD (eVar 3) (eArgs vTup (aCons (eBin vIx (eVar 12) (eBin vSub (eVar 8) (eC (.int 1)))) (aCons (eBin vIx (eVar 12) (eVar 8)) aNil))))) (Mm.gName 7))
  (sSeq (sIf (tVal (eBin vNe (eVar 11) (eArgs vSumL (aCons (eVar 7) aNil)))) (sRet (eC (.bl false))) sNx)
  (sSeq (sFor (Mm.iRng1 (aCons (eArgs vLen (aCons (eVar 12) aNil)) aNil)) (Mm.gName 8) body_law_2)
  (sFor (Mm.iRng1 (aCons (eC (.int 10)) aNil)) (Mm.gName 9) body_law_3)))))) sNx)
def m_law : MS := (sSeq (sAsg (eArgs c_law_dice (aCons (eVar 0) (aCons (eC (.int 0)) aNil))) (Mm.gName 1))
  (sSeq (sAsg (eArgs c_law_ways (aCons (eVar 1) aNil)) (Mm.gName 2))
  (sSeq (sAsg (eArgs vDictT (aCons (eLc [10] (iSeq (eVar 2)) (Mm.gName 10) tYes (eArgs vTup (aCons (eSl vSl (eVar 10) oNone (oSome (eC (.int 2)))) (aCons (eBin vIx (eVar 10) (eC (.int 2))) aNil)))) aNil)) (Mm.gName 3))
  (sSeq (sAsg eDt (Mm.gName 4))
  (sSeq (sFor (Mm.iRng1 (aCons (eC (.int 10)) aNil)) (Mm.gName 5) body_law_1)
  (sSeq (sForDT 4 5 6 body_law_4)
  (sRet (eC (.bl true)))))))))
def c_law : List D → Hs → R D := callD 1 14 0 m_law
end Mm
namespace Mm
open PySem PySem.Spec PyProof.Rows L2
abbrev ct (K : PySem.W.Frag) : Ct := ⟨K, fun x => He.ga K x⟩
def top (i : Nat) : Stmt := PySem.Challenge.pw_clipformats_k06_whole_best_routes_hang_t.main.body.getD i (.Pass ⟨0, 0, 0, 0⟩)
abbrev s_is_between : Stmt := top 9
abbrev s_is_kind : Stmt := top 10
abbrev s_is_way : Stmt := top 11
abbrev s_need_ways : Stmt := top 12
abbrev s_need_kind : Stmt := top 13
abbrev s_routes_from : Stmt := top 14
abbrev s_best_way : Stmt := top 15
abbrev s_law_dice : Stmt := top 17
abbrev s_law_off : Stmt := top 18
abbrev s_law_ways : Stmt := top 19
abbrev s_law : Stmt := top 20
structure Fx (mg : Str → Option Value) (K : PySem.W.Frag) where
  a_is_between : Addr
  f_is_between : FuncData
  F_is_between : FunD K "is_between" "is_between" (defArgs s_is_between) (defBody s_is_between) (defScope s_is_between) [] [] a_is_between f_is_between
  g_is_between : mg "is_between" = some (.ref a_is_between)
  b_is_between : Binds K f_is_between ["part", "low", "high"] []
  a_is_kind : Addr
  f_is_kind : FuncData
  F_is_kind : FunD K "is_kind" "is_kind" (defArgs s_is_kind) (defBody s_is_kind) (defScope s_is_kind) [] [] a_is_kind f_is_kind
  g_is_kind : mg "is_kind" = some (.ref a_is_kind)
  b_is_kind : Binds K f_is_kind ["part"] []
  a_is_way : Addr
  f_is_way : FuncData
  F_is_way : FunD K "is_way" "is_way" (defArgs s_is_way) (defBody s_is_way) (defScope s_is_way) [] [] a_is_way f_is_way
  g_is_way : mg "is_way" = some (.ref a_is_way)
  b_is_way : Binds K f_is_way ["way"] []
  a_need_ways : Addr
  f_need_ways : FuncData
  F_need_ways : FunD K "need_ways" "need_ways" (defArgs s_need_ways) (defBody s_need_ways) (defScope s_need_ways) [] [] a_need_ways f_need_ways
  g_need_ways : mg "need_ways" = some (.ref a_need_ways)
  b_need_ways : Binds K f_need_ways ["ways"] []
  a_need_kind : Addr
  f_need_kind : FuncData
  F_need_kind : FunD K "need_kind" "need_kind" (defArgs s_need_kind) (defBody s_need_kind) (defScope s_need_kind) [] [] a_need_kind f_need_kind
  g_need_kind : mg "need_kind" = some (.ref a_need_kind)
  b_need_kind : Binds K f_need_kind ["kind"] []
  a_routes_from : Addr
  f_routes_from : FuncData
  F_routes_from : FunD K "routes_from" "routes_from" (defArgs s_routes_from) (defBody s_routes_from) (defScope s_routes_from) [] [] a_routes_from f_routes_from
  g_routes_from : mg "routes_from" = some (.ref a_routes_from)
  b_routes_from : Binds K f_routes_from ["ways", "begin"] []
  a_best_way : Addr
  f_best_way : FuncData
  F_best_way : FunD K "best_way" "best_way" (defArgs s_best_way) (defBody s_best_way) (defScope s_best_way) [] [] a_best_way f_best_way
  g_best_way : mg "best_way" = some (.ref a_best_way)
  b_best_way : Binds K f_best_way ["ways", "begin", "goal"] []
  a_law_dice : Addr
  f_law_dice : FuncData
  F_law_dice : FunD K "_law_dice" "_law_dice" (defArgs s_law_dice) (defBody s_law_dice) (defScope s_law_dice) [] [] a_law_dice f_law_dice
  g_law_dice : mg "_law_dice" = some (.ref a_law_dice)
  b_law_dice : Binds K f_law_dice ["_law_script", "_law_k"] []
  a_law_off : Addr
  f_law_off : FuncData
  F_law_off : FunD K "_law_off" "_law_off" (defArgs s_law_off) (defBody s_law_off) (defScope s_law_off) [] [] a_law_off f_law_off
  g_law_off : mg "_law_off" = some (.ref a_law_off)
  b_law_off : Binds K f_law_off ["_law_d", "_law_upto"] []
  a_law_ways : Addr
  f_law_ways : FuncData
  F_law_ways : FunD K "_law_ways" "_law_ways" (defArgs s_law_ways) (defBody s_law_ways) (defScope s_law_ways) [] [] a_law_ways f_law_ways
  g_law_ways : mg "_law_ways" = some (.ref a_law_ways)
  b_law_ways : Binds K f_law_ways ["_law_d"] []
  a_law : Addr
  f_law : FuncData
  F_law : FunD K "law" "law" (defArgs s_law) (defBody s_law) (defScope s_law) [] [] a_law f_law
  g_law : mg "law" = some (.ref a_law)
  b_law : Binds K f_law ["_law_script"] []
  n_ValueError : mg "ValueError" = none
  n_abs : mg "abs" = none
  n_bool : mg "bool" = none
  n_dict : mg "dict" = none
  n_enumerate : mg "enumerate" = none
  n_int : mg "int" = none
  n_isinstance : mg "isinstance" = none
  n_len : mg "len" = none
  n_list : mg "list" = none
  n_min : mg "min" = none
  n_range : mg "range" = none
  n_set : mg "set" = none
  n_str : mg "str" = none
  n_sum : mg "sum" = none
  n_tuple : mg "tuple" = none
  i_KINDS : ∃ t, mg "KINDS" = some (.int 10 t)
  i_MOST_LOSS : ∃ t, mg "MOST_LOSS" = some (.int 9 t)
  i_MOST_WAYS : ∃ t, mg "MOST_WAYS" = some (.int 30 t)
  a_RULES : Addr
  g_RULES : mg "RULES" = some (.ref a_RULES)
  r_RULES : ∀ ρ F, Rp (ct K) ρ F (.rt [.str "same", .str "turn", .str "sort", .str "half", .str "next"]) (.ref a_RULES)
theorem hu1 {k : Nat} {A : Around} (r : Room k A) : A.units + 1 < cLine := by have := r.un; omega
theorem hu64 {k : Nat} {A : Around} (r : Room k A) : A.units + 64 < cLine := by have := r.un; omega
theorem hu65 {k : Nat} {A : Around} (r : Room k A) : A.units + 65 < cLine := by have := r.un; omega
section
variable {P : Program} {w : World} {K : PySem.W.Frag} {mg : Str → Option Value} {base : Heap}
theorem sc_is_between : FnScope ["part", "low", "high"] ["part", "low", "high"] (defScope s_is_between) := ⟨rfl, rfl, rfl, by decide +kernel, rfl, by decide +kernel, by decide +kernel⟩
theorem ok_is_between (Y : Fx mg K) : FnOk P w K mg base (L2.CX P w) 1 Y.a_is_between Y.f_is_between ["part", "low", "high"] (SpC (ct K) c_is_between) :=
  def_ok (c := ct K) 3 3 0 Y.F_is_between sc_is_between rfl rfl fun cdv A outer s H E hr =>
  (jss_one (js_ret (je_and (je_callB (jc_isi rfl) rfl Y.n_isinstance boot_isinstance (ja_cons (je_var 0) (ja_cons (je_ty rfl Y.n_int boot_int) ja_nil))) (je_and (je_not (je_callB (jc_isi rfl) rfl Y.n_isinstance boot_isinstance (ja_cons (je_var 0) (ja_cons (je_ty rfl Y.n_bool boot_bool) ja_nil)))) (je_one (je_chain jo_le jo_le (je_var 1) (je_var 0) (je_var 2)))))))
theorem sc_routes_from : FnScope ["ways", "begin", "found", "level", "best", "here", "start", "goal", "loss", "rule", "row"] ["ways", "begin"] (defScope s_routes_from) := ⟨rfl, rfl, rfl, by decide +kernel, rfl, by decide +kernel, by decide +kernel⟩
theorem ok_routes_from (Y : Fx mg K) : FnOk P w K mg base (L2.CX P w) 1 Y.a_routes_from Y.f_routes_from ["ways", "begin"] (SpC (ct K) c_routes_from) :=
  def_ok (c := ct K) 2 11 0 Y.F_routes_from sc_routes_from rfl rfl fun cdv A outer s H E hr =>
  (jss_cons (js_set 2 sc_routes_from.nd je_dk0)
  (jss_cons (js_set 3 sc_routes_from.nd (je_disp1 (je_var 1) (je_tup (ja_cons je_int (ja_cons je_int (ja_cons (je_tup (ja_cons (je_var 1) ja_nil)) ja_nil))))))
  (jss_cons (js_while 100 (passes_of rfl) (jt_cmp (jo_ne (hu64 hr)) (je_var 3) je_df0) (jss_cons (js_set 4 sc_routes_from.nd (je_minV rfl (hu64 hr) rfl Y.n_min (je_var 3)))
  (jss_cons (js_set 5 sc_routes_from.nd (je_ix (jx_seq rfl) (je_ix (jx_seq rfl) (je_var 4) je_int) (je_un ju_neg je_int)))
  (jss_cons (js_expr (je_meth PySem.F.plainAttrs_dict PySem.F.slot_dict_pop PySem.F.type_dict_pop jm_popK isDct_ty (je_var 3) (ja_cons (je_var 5) ja_nil)))
  (jss_cons (js_asg (je_var 4) (jg_sub (jset (hu1 hr)) (je_var 2) (je_var 5)))
  (jss_one (js_for (passes_of rfl) rfl (ji_any rfl (je_var 0)) (jg_tup rfl (jgs_name 6 sc_routes_from.nd (jgs_name 7 sc_routes_from.nd (jgs_name 8 sc_routes_from.nd (jgs_name 9 sc_routes_from.nd jgs_nil))))) (jss_one (js_if (JW.pt (jw_and (jt_cmp (jo_eq (hu64 hr)) (je_var 6) (je_var 5)) (jw_and1 (jt_cmp (jo_notIn rfl (hu65 hr)) (je_var 7) (je_var 2))))) (jss_cons (js_set 10 sc_routes_from.nd (je_tup (ja_cons (je_bin jo_add (je_ix (jx_seq rfl) (je_var 4) je_int) (je_var 8)) (ja_cons (je_bin jo_add (je_ix (jx_seq rfl) (je_var 4) je_int) je_int) (ja_cons (je_bin jo_add (je_ix (jx_seq rfl) (je_var 4) je_int) (je_tup (ja_cons (je_var 7) ja_nil))) ja_nil)))))
  (jss_one (js_asg (je_callB (jc_min2 rfl (hu64 hr)) rfl Y.n_min boot_min (ja_cons (je_meth PySem.F.plainAttrs_dict PySem.F.slot_dict_get PySem.F.type_dict_get (jm_get2 (hu1 hr)) isDct_ty (je_var 3) (ja_cons (je_var 7) (ja_cons (je_var 10) ja_nil))) (ja_cons (je_var 10) ja_nil))) (jg_sub (jset (hu1 hr)) (je_var 3) (je_var 7))))) jss_nil)))))))))
  (jss_one (js_ret (je_frz (je_var 2)))))))
theorem sc_law_dice : FnScope ["_law_script", "_law_k", "_law_found", "_law_cell"] ["_law_script", "_law_k"] (defScope s_law_dice) := ⟨rfl, rfl, rfl, by decide +kernel, rfl, by decide +kernel, by decide +kernel⟩
theorem ok_law_dice (Y : Fx mg K) : FnOk P w K mg base (L2.CX P w) 1 Y.a_law_dice Y.f_law_dice ["_law_script", "_law_k"] (SpC (ct K) c_law_dice) :=
  def_ok (c := ct K) 2 4 1 Y.F_law_dice sc_law_dice rfl rfl fun cdv A outer s H E hr =>
  (jss_cons (js_set 2 sc_law_dice.nd (je_var 1))
  (jss_cons (js_for (passes_of rfl) rfl (ji_any rfl (je_var 0)) (jg_name 3 sc_law_dice.nd) (jss_one (js_set 2 sc_law_dice.nd (je_bin jo_mod (je_bin jo_add (je_bin jo_mul (je_var 2) je_int) (je_callB jc_abs rfl Y.n_abs boot_abs (ja_cons (je_var 3) ja_nil))) je_int))))
  (jss_one (js_ret (je_bin jo_addO (je_lst (ja_cons (je_var 2) (ja_cons je_int ja_nil))) (je_lc (own := [("_law_cell", 3)]) rfl sc_law_dice.nd (ji_any rfl (je_var 0)) (blkOk_by (own := [("_law_cell", 3)]) (by kernel_rfl)) (fun _ _ _ _ _ => (jgo_name 3 sc_law_dice.nd (by decide))) (fun _ _ _ _ _ => (jts_one (jt_cmp jo_ge (je_var 3) (je_bin jo_pow je_int je_int)))) (fun _ _ _ _ _ => (je_var 3))))))))
theorem sc_law_off : FnScope ["_law_d", "_law_upto", "_law_found"] ["_law_d", "_law_upto"] (defScope s_law_off) := ⟨rfl, rfl, rfl, by decide +kernel, rfl, by decide +kernel, by decide +kernel⟩
theorem ok_law_off (Y : Fx mg K) : FnOk P w K mg base (L2.CX P w) 1 Y.a_law_off Y.f_law_off ["_law_d", "_law_upto"] (SpC (ct K) c_law_off) :=
  def_ok (c := ct K) 2 3 0 Y.F_law_off sc_law_off rfl rfl fun cdv A outer s H E hr =>
  (jss_cons (js_if (JW.pt (jw_and (jt_cmp (jo_eq (hu64 hr)) (je_ix (jx_seq rfl) (je_var 0) je_int) je_int) (jw_and1 (jt_cmp jo_gt (je_callB (jc_len rfl) rfl Y.n_len boot_len (ja_cons (je_var 0) ja_nil)) je_int)))) (jss_one (js_asg (je_meth PySem.F.plainAttrs_list PySem.F.slot_list_pop PySem.F.type_list_pop jm_popAt isLst_ty (je_var 0) (ja_cons je_int ja_nil)) (jg_sub (jset (hu1 hr)) (je_var 0) je_int))) jss_nil)
  (jss_cons (js_if (jt_cmp jo_gt (je_ix (jx_seq rfl) (je_var 0) je_int) je_int) (jss_cons (js_set 2 sc_law_off.nd (je_bin jo_mod (je_ix (jx_seq rfl) (je_var 0) je_int) (je_var 1)))
  (jss_cons (js_asg (je_bin jo_fdiv (je_ix (jx_seq rfl) (je_var 0) je_int) (je_var 1)) (jg_sub (jset (hu1 hr)) (je_var 0) je_int))
  (jss_one (js_ret (je_var 2))))) jss_nil)
  (jss_cons (js_asg (je_bin jo_mod (je_bin jo_add (je_bin jo_mul (je_ix (jx_seq rfl) (je_var 0) je_int) je_int) je_int) je_int) (jg_sub (jset (hu1 hr)) (je_var 0) je_int))
  (jss_one (js_ret (je_bin jo_mod (je_bin jo_fdiv (je_ix (jx_seq rfl) (je_var 0) je_int) je_int) (je_var 1)))))))
theorem sc_is_kind : FnScope ["part"] ["part"] (defScope s_is_kind) := ⟨rfl, rfl, rfl, by decide +kernel, rfl, by decide +kernel, by decide +kernel⟩
theorem ok_is_kind (Y : Fx mg K) : FnOk P w K mg base (L2.CX P w) 2 Y.a_is_kind Y.f_is_kind ["part"] (SpC (ct K) c_is_kind) :=
  def_ok (c := ct K) 1 1 0 Y.F_is_kind sc_is_kind rfl rfl fun cdv A outer s H E hr =>
  (jss_one (js_ret (je_call (ok_is_between Y) (hr.mono (by decide)) Y.g_is_between Y.F_is_between.kp Y.b_is_between (pz_of (takes_of rfl rfl rfl rfl)) rfl (ja_cons (je_var 0) (ja_cons je_int (ja_cons (je_bin jo_sub (je_gint rfl Y.i_KINDS) je_int) ja_nil))))))
theorem sc_law_ways : FnScope ["_law_d", "_law_k", "_law_most", "_law_few", "_law_found", "_law_met", "_law_pair", "_law_loss"] ["_law_d"] (defScope s_law_ways) := ⟨rfl, rfl, rfl, by decide +kernel, rfl, by decide +kernel, by decide +kernel⟩
theorem ok_law_ways (Y : Fx mg K) : FnOk P w K mg base (L2.CX P w) 2 Y.a_law_ways Y.f_law_ways ["_law_d"] (SpC (ct K) c_law_ways) :=
  def_ok (c := ct K) 1 8 0 Y.F_law_ways sc_law_ways rfl rfl fun cdv A outer s H E hr =>
  (jss_cons (js_par 2 3 rfl sc_law_ways.nd (by decide) (je_ix (jx_seq rfl) (je_lst (ja_cons je_int (ja_cons je_int (ja_cons je_int ja_nil)))) (je_call (ok_law_off Y) (hr.mono (by decide)) Y.g_law_off Y.F_law_off.kp Y.b_law_off (pz_of (takes_of rfl rfl rfl rfl)) rfl (ja_cons (je_var 0) (ja_cons je_int ja_nil)))) (je_ix (jx_seq rfl) (je_lst (ja_cons je_int (ja_cons je_int (ja_cons je_int ja_nil)))) (je_call (ok_law_off Y) (hr.mono (by decide)) Y.g_law_off Y.F_law_off.kp Y.b_law_off (pz_of (takes_of rfl rfl rfl rfl)) rfl (ja_cons (je_var 0) (ja_cons je_int ja_nil)))) rfl)
  (jss_cons (js_par 4 5 rfl sc_law_ways.nd (by decide) (je_lstO ja_nil) (je_lstO ja_nil) rfl)
  (jss_cons (js_for (passes_of rfl) rfl (ji_rng1 rfl Y.n_range (ja_cons (je_call (ok_law_off Y) (hr.mono (by decide)) Y.g_law_off Y.F_law_off.kp Y.b_law_off (pz_of (takes_of rfl rfl rfl rfl)) rfl (ja_cons (je_var 0) (ja_cons (je_bin jo_add (je_var 2) je_int) ja_nil))) ja_nil)) (jg_name 1 sc_law_ways.nd) (jss_cons (js_set 6 sc_law_ways.nd (je_tup (ja_cons (je_call (ok_law_off Y) (hr.mono (by decide)) Y.g_law_off Y.F_law_off.kp Y.b_law_off (pz_of (takes_of rfl rfl rfl rfl)) rfl (ja_cons (je_var 0) (ja_cons (je_var 3) ja_nil))) (ja_cons (je_call (ok_law_off Y) (hr.mono (by decide)) Y.g_law_off Y.F_law_off.kp Y.b_law_off (pz_of (takes_of rfl rfl rfl rfl)) rfl (ja_cons (je_var 0) (ja_cons (je_var 3) ja_nil))) ja_nil))))
  (jss_one (js_if (JW.pt (jw_and (jt_cmp (jo_ne (hu64 hr)) (je_ix (jx_seq rfl) (je_var 6) je_int) (je_ix (jx_seq rfl) (je_var 6) je_int)) (jw_and1 (jt_cmp (jo_notIn rfl (hu65 hr)) (je_var 6) (je_var 5))))) (jss_cons (js_expr (je_meth PySem.F.plainAttrs_list PySem.F.slot_list_append PySem.F.type_list_append jm_append isLst_ty (je_var 5) (ja_cons (je_var 6) ja_nil)))
  (jss_cons (js_set 7 sc_law_ways.nd (je_call (ok_law_off Y) (hr.mono (by decide)) Y.g_law_off Y.F_law_off.kp Y.b_law_off (pz_of (takes_of rfl rfl rfl rfl)) rfl (ja_cons (je_var 0) (ja_cons (je_ix (jx_seq rfl) (je_lst (ja_cons je_int (ja_cons je_int ja_nil))) (je_call (ok_law_off Y) (hr.mono (by decide)) Y.g_law_off Y.F_law_off.kp Y.b_law_off (pz_of (takes_of rfl rfl rfl rfl)) rfl (ja_cons (je_var 0) (ja_cons je_int ja_nil)))) ja_nil))))
  (jss_one (js_expr (je_meth PySem.F.plainAttrs_list PySem.F.slot_list_append PySem.F.type_list_append jm_append isLst_ty (je_var 4) (ja_cons (je_bin jo_add (je_var 6) (je_tup (ja_cons (je_var 7) (ja_cons (je_ix (jx_seq rfl) (je_lst (ja_cons je_str (ja_cons je_str (ja_cons je_str (ja_cons je_str (ja_cons je_str ja_nil)))))) (je_call (ok_law_off Y) (hr.mono (by decide)) Y.g_law_off Y.F_law_off.kp Y.b_law_off (pz_of (takes_of rfl rfl rfl rfl)) rfl (ja_cons (je_var 0) (ja_cons je_int ja_nil)))) ja_nil)))) ja_nil)))))) jss_nil))))
  (jss_one (js_ret (je_frz (je_var 4)))))))
theorem sc_is_way : FnScope ["way"] ["way"] (defScope s_is_way) := ⟨rfl, rfl, rfl, by decide +kernel, rfl, by decide +kernel, by decide +kernel⟩
theorem ok_is_way (Y : Fx mg K) : FnOk P w K mg base (L2.CX P w) 3 Y.a_is_way Y.f_is_way ["way"] (SpC (ct K) c_is_way) :=
  def_ok (c := ct K) 1 1 0 Y.F_is_way sc_is_way rfl rfl fun cdv A outer s H E hr =>
  (jss_cons (js_if (JW.pt (jw_or (jt_not (jt_val (je_callB (jc_isi rfl) rfl Y.n_isinstance boot_isinstance (ja_cons (je_var 0) (ja_cons (je_ty rfl Y.n_tuple boot_tuple) ja_nil))))) (jw_or (jt_cmp (jo_ne (hu64 hr)) (je_callB (jc_len rfl) rfl Y.n_len boot_len (ja_cons (je_var 0) ja_nil)) je_int) (jw_or (jt_not (jt_val (je_call (ok_is_kind Y) (hr.mono (by decide)) Y.g_is_kind Y.F_is_kind.kp Y.b_is_kind (pz_of (takes_of rfl rfl rfl rfl)) rfl (ja_cons (je_ix (jx_seq rfl) (je_var 0) je_int) ja_nil)))) (jw_or (jt_not (jt_val (je_call (ok_is_kind Y) (hr.mono (by decide)) Y.g_is_kind Y.F_is_kind.kp Y.b_is_kind (pz_of (takes_of rfl rfl rfl rfl)) rfl (ja_cons (je_ix (jx_seq rfl) (je_var 0) je_int) ja_nil)))) (jw_or1 (jt_cmp (jo_eq (hu64 hr)) (je_ix (jx_seq rfl) (je_var 0) je_int) (je_ix (jx_seq rfl) (je_var 0) je_int)))))))) (jss_one (js_ret je_bl)) jss_nil)
  (jss_one (js_ret (je_and (je_call (ok_is_between Y) (hr.mono (by decide)) Y.g_is_between Y.F_is_between.kp Y.b_is_between (pz_of (takes_of rfl rfl rfl rfl)) rfl (ja_cons (je_ix (jx_seq rfl) (je_var 0) je_int) (ja_cons je_int (ja_cons (je_gint rfl Y.i_MOST_LOSS) ja_nil)))) (je_and (je_callB (jc_isi rfl) rfl Y.n_isinstance boot_isinstance (ja_cons (je_ix (jx_seq rfl) (je_var 0) je_int) (ja_cons (je_ty rfl Y.n_str boot_str) ja_nil))) (je_one (je_cmp (jo_in rfl (hu65 hr)) (je_ix (jx_seq rfl) (je_var 0) je_int) (je_glob rfl Y.g_RULES Y.r_RULES))))))))
theorem sc_need_kind : FnScope ["kind"] ["kind"] (defScope s_need_kind) := ⟨rfl, rfl, rfl, by decide +kernel, rfl, by decide +kernel, by decide +kernel⟩
theorem ok_need_kind (Y : Fx mg K) : FnOk P w K mg base (L2.CX P w) 3 Y.a_need_kind Y.f_need_kind ["kind"] (SpC (ct K) c_need_kind) :=
  def_ok (c := ct K) 1 1 0 Y.F_need_kind sc_need_kind rfl rfl fun cdv A outer s H E hr =>
  (jss_one (js_if (jt_not (jt_val (je_call (ok_is_kind Y) (hr.mono (by decide)) Y.g_is_kind Y.F_is_kind.kp Y.b_is_kind (pz_of (takes_of rfl rfl rfl rfl)) rfl (ja_cons (je_var 0) ja_nil)))) (jss_one js_never) jss_nil))
theorem sc_need_ways : FnScope ["ways", "met", "at", "way"] ["ways"] (defScope s_need_ways) := ⟨rfl, rfl, rfl, by decide +kernel, rfl, by decide +kernel, by decide +kernel⟩
theorem ok_need_ways (Y : Fx mg K) : FnOk P w K mg base (L2.CX P w) 4 Y.a_need_ways Y.f_need_ways ["ways"] (SpC (ct K) c_need_ways) :=
  def_ok (c := ct K) 1 4 0 Y.F_need_ways sc_need_ways rfl rfl fun cdv A outer s H E hr =>
  (jss_cons (js_set 1 sc_need_ways.nd je_dt0)
  (jss_one (js_for (passes_of rfl) rfl (ji_enum2 rfl Y.n_enumerate (ja_cons (je_var 0) ja_nil)) (jg_tup rfl (jgs_name 2 sc_need_ways.nd (jgs_name 3 sc_need_ways.nd jgs_nil))) (jss_cons (js_if (JW.pt (jw_or (jt_cmp jo_ge (je_var 2) (je_gint rfl Y.i_MOST_WAYS)) (jw_or (jt_not (jt_val (je_call (ok_is_way Y) (hr.mono (by decide)) Y.g_is_way Y.F_is_way.kp Y.b_is_way (pz_of (takes_of rfl rfl rfl rfl)) rfl (ja_cons (je_var 3) ja_nil)))) (jw_or1 (jt_cmp (jo_in rfl (hu65 hr)) (je_sl jsl (je_var 3) jp_none (jp_some je_int)) (je_var 1)))))) (jss_one js_never) jss_nil)
  (jss_one (js_asg je_bl (jg_sub (jset (hu1 hr)) (je_var 1) (je_sl jsl (je_var 3) jp_none (jp_some je_int)))))))))
theorem sc_best_way : FnScope ["ways", "begin", "goal", "found"] ["ways", "begin", "goal"] (defScope s_best_way) := ⟨rfl, rfl, rfl, by decide +kernel, rfl, by decide +kernel, by decide +kernel⟩
theorem ok_best_way (Y : Fx mg K) : FnOk P w K mg base (L2.CX P w) 5 Y.a_best_way Y.f_best_way ["ways", "begin", "goal"] (SpC (ct K) c_best_way) :=
  def_ok (c := ct K) 3 4 0 Y.F_best_way sc_best_way rfl rfl fun cdv A outer s H E hr =>
  (jss_cons (js_expr (je_call (ok_need_ways Y) (hr.mono (by decide)) Y.g_need_ways Y.F_need_ways.kp Y.b_need_ways (pz_of (takes_of rfl rfl rfl rfl)) rfl (ja_cons (je_var 0) ja_nil)))
  (jss_cons (js_expr (je_call (ok_need_kind Y) (hr.mono (by decide)) Y.g_need_kind Y.F_need_kind.kp Y.b_need_kind (pz_of (takes_of rfl rfl rfl rfl)) rfl (ja_cons (je_var 1) ja_nil)))
  (jss_cons (js_expr (je_call (ok_need_kind Y) (hr.mono (by decide)) Y.g_need_kind Y.F_need_kind.kp Y.b_need_kind (pz_of (takes_of rfl rfl rfl rfl)) rfl (ja_cons (je_var 2) ja_nil)))
  (jss_cons (js_set 3 sc_best_way.nd (je_meth PySem.F.plainAttrs_dict PySem.F.slot_dict_get PySem.F.type_dict_get (jm_get2 (hu1 hr)) isDct_ty (je_call (ok_routes_from Y) (hr.mono (by decide)) Y.g_routes_from Y.F_routes_from.kp Y.b_routes_from (pz_of (takes_of rfl rfl rfl rfl)) rfl (ja_cons (je_var 0) (ja_cons (je_var 1) ja_nil))) (ja_cons (je_var 2) (ja_cons je_non ja_nil))))
  (jss_one (js_ret (je_if (jt_cmp jo_isN (je_var 3) je_non) je_non (je_tup (ja_cons (je_ix (jx_seq rfl) (je_var 3) je_int) (ja_cons (je_callTy (jc_list rfl) rfl Y.n_list boot_list (ja_cons (je_ix (jx_seq rfl) (je_var 3) je_int) ja_nil)) ja_nil))))))))))
theorem sc_law : FnScope ["_law_script", "_law_d", "_law_ways_here", "_law_losses", "_law_table", "_law_begin", "_law_goal", "_law_steps", "_law_k", "_law_third", "_law_way", "_law_loss", "_law_route", "_law_other"] ["_law_script"] (defScope s_law) := ⟨rfl, rfl, rfl, by decide +kernel, rfl, by decide +kernel, by decide +kernel⟩
theorem ok_law (Y : Fx mg K) : FnOk P w K mg base (L2.CX P w) 6 Y.a_law Y.f_law ["_law_script"] (SpC (ct K) c_law) :=
  def_ok (c := ct K) 1 14 0 Y.F_law sc_law rfl rfl fun cdv A outer s H E hr =>
  (jss_cons (js_set 1 sc_law.nd (je_call (ok_law_dice Y) (hr.mono (by decide)) Y.g_law_dice Y.F_law_dice.kp Y.b_law_dice (pz_of (takes_of rfl rfl rfl rfl)) rfl (ja_cons (je_var 0) (ja_cons je_int ja_nil))))
  (jss_cons (js_set 2 sc_law.nd (je_call (ok_law_ways Y) (hr.mono (by decide)) Y.g_law_ways Y.F_law_ways.kp Y.b_law_ways (pz_of (takes_of rfl rfl rfl rfl)) rfl (ja_cons (je_var 1) ja_nil)))
  (jss_cons (js_set 3 sc_law.nd (je_callTy (jc_dictT rfl (hu64 hr)) rfl Y.n_dict boot_dict (ja_cons (je_lc (own := [("_law_way", 10)]) rfl sc_law.nd (ji_any rfl (je_var 2)) (blkOk_by (own := [("_law_way", 10)]) (by kernel_rfl)) (fun _ _ _ _ _ => (jgo_name 10 sc_law.nd (by decide))) (fun _ _ _ _ _ => jts_nil) (fun _ _ _ _ _ => (je_tup (ja_cons (je_sl jsl (je_var 10) jp_none (jp_some je_int)) (ja_cons (je_ix (jx_seq rfl) (je_var 10) je_int) ja_nil))))) ja_nil)))
  (jss_cons (js_set 4 sc_law.nd je_dt0)
  (jss_cons (js_for (passes_of rfl) rfl (ji_rng1 rfl Y.n_range (ja_cons je_int ja_nil)) (jg_name 5 sc_law.nd) (jss_one (js_for (passes_of rfl) rfl (ji_rng1 rfl Y.n_range (ja_cons je_int ja_nil)) (jg_name 6 sc_law.nd) (jss_one (js_asg (je_call (ok_best_way Y) (hr.mono (by decide)) Y.g_best_way Y.F_best_way.kp Y.b_best_way (pz_of (takes_of rfl rfl rfl rfl)) rfl (ja_cons (je_var 2) (ja_cons (je_var 5) (ja_cons (je_var 6) ja_nil)))) (jg_sub (jset (hu1 hr)) (je_var 4) (je_tup (ja_cons (je_var 5) (ja_cons (je_var 6) ja_nil)))))))))
  (jss_cons (js_forDT 4 5 6 (passes_of rfl) rfl (pe_var (i := 4) rfl (.inl rfl)) (pg_name (i := 5) sc_law.nd rfl (.inl rfl)) (pg_name (i := 6) sc_law.nd rfl (.inl rfl)) (jss_one (js_if (jt_cmp jo_notN (je_ix (jx_dict (hu1 hr)) (je_var 4) (je_tup (ja_cons (je_var 5) (ja_cons (je_var 6) ja_nil)))) je_non) (jss_cons (js_asg (je_ix (jx_dict (hu1 hr)) (je_var 4) (je_tup (ja_cons (je_var 5) (ja_cons (je_var 6) ja_nil)))) (jg_tup rfl (jgs_name 11 sc_law.nd (jgs_name 12 sc_law.nd jgs_nil))))
  (jss_cons (js_if (JW.pt (jw_or (jt_cmp (jo_ne (hu64 hr)) (je_ix (jx_seq rfl) (je_var 12) je_int) (je_var 5)) (jw_or (jt_cmp (jo_ne (hu64 hr)) (je_ix (jx_seq rfl) (je_var 12) (je_un ju_neg je_int)) (je_var 6)) (jw_or1 (jt_cmp (jo_ne (hu64 hr)) (je_lenSetL rfl rfl Y.n_len rfl Y.n_set (je_var 12)) (je_callB (jc_len rfl) rfl Y.n_len boot_len (ja_cons (je_var 12) ja_nil))))))) (jss_one (js_ret je_bl)) jss_nil)
  (jss_cons (js_setLc (own := [("_law_k", 8)]) 7 rfl sc_law.nd (ji_rng2 rfl Y.n_range (ja_cons je_int (ja_cons (je_callB (jc_len rfl) rfl Y.n_len boot_len (ja_cons (je_var 12) ja_nil)) ja_nil))) (blkOk_by (own := [("_law_k", 8)]) (by kernel_rfl)) (fun _ _ _ _ _ => (jgo_name 8 sc_law.nd (by decide))) (fun _ _ _ _ _ => jts_nil) (fun _ _ _ _ _ => (je_ix (jx_dict (hu1 hr)) (je_var 3) (je_tup (ja_cons (je_ix (jx_seq rfl) (je_var 12) (je_bin jo_sub (je_var 8) je_int)) (ja_cons (je_ix (jx_seq rfl) (je_var 12) (je_var 8)) ja_nil))))) (sw_true rfl rfl rfl (by decide +kernel)))
  (jss_cons (js_if (jt_cmp (jo_ne (hu64 hr)) (je_var 11) (je_callB (jc_sumL rfl) rfl Y.n_sum boot_sum (ja_cons (je_var 7) ja_nil))) (jss_one (js_ret je_bl)) jss_nil)
  (jss_cons (js_for (passes_of rfl) rfl (ji_rng1 rfl Y.n_range (ja_cons (je_callB (jc_len rfl) rfl Y.n_len boot_len (ja_cons (je_var 12) ja_nil)) ja_nil)) (jg_name 8 sc_law.nd) (jss_cons (js_if (jt_cmp (jo_ne (hu64 hr)) (je_ix (jx_dict (hu1 hr)) (je_var 4) (je_tup (ja_cons (je_var 5) (ja_cons (je_ix (jx_seq rfl) (je_var 12) (je_var 8)) ja_nil)))) (je_tup (ja_cons (je_callB (jc_sumL rfl) rfl Y.n_sum boot_sum (ja_cons (je_sl jsl (je_var 7) jp_none (jp_some (je_var 8))) ja_nil)) (ja_cons (je_sl jsl (je_var 12) jp_none (jp_some (je_bin jo_add (je_var 8) je_int))) ja_nil)))) (jss_one (js_ret je_bl)) jss_nil)
  (jss_one (js_if (jt_cmp (jo_ne (hu64 hr)) (je_ix (jx_seq rfl) (je_ix (jx_dict (hu1 hr)) (je_var 4) (je_tup (ja_cons (je_ix (jx_seq rfl) (je_var 12) (je_var 8)) (ja_cons (je_var 6) ja_nil)))) je_int) (je_callB (jc_sumL rfl) rfl Y.n_sum boot_sum (ja_cons (je_sl jsl (je_var 7) (jp_some (je_var 8)) jp_none) ja_nil))) (jss_one (js_ret je_bl)) jss_nil))))
  (jss_one (js_for (passes_of rfl) rfl (ji_rng1 rfl Y.n_range (ja_cons je_int ja_nil)) (jg_name 9 sc_law.nd) (jss_one (js_if (jt_cmp jo_notN (je_ix (jx_dict (hu1 hr)) (je_var 4) (je_tup (ja_cons (je_var 6) (ja_cons (je_var 9) ja_nil)))) je_non) (jss_cons (js_set 13 sc_law.nd (je_ix (jx_dict (hu1 hr)) (je_var 4) (je_tup (ja_cons (je_var 5) (ja_cons (je_var 9) ja_nil)))))
  (jss_one (js_if (JW.pt (jw_or (jt_cmp jo_isN (je_var 13) je_non) (jw_or1 (jt_cmp jo_gt (je_ix (jx_seq rfl) (je_var 13) je_int) (je_bin jo_add (je_var 11) (je_ix (jx_seq rfl) (je_ix (jx_dict (hu1 hr)) (je_var 4) (je_tup (ja_cons (je_var 6) (ja_cons (je_var 9) ja_nil)))) je_int)))))) (jss_one (js_ret je_bl)) jss_nil))) jss_nil))))))))) jss_nil)))
  (jss_one (js_ret je_bl))))))))
end
end Mm
namespace Mm
open PySem PySem.Spec PyProof.Rows L2
def d_is_between : He.DefD := ⟨("is_between", none), "is_between", "is_between", defArgs s_is_between, defBody s_is_between, defScope s_is_between, [], []⟩
def d_is_kind : He.DefD := ⟨("is_kind", none), "is_kind", "is_kind", defArgs s_is_kind, defBody s_is_kind, defScope s_is_kind, [], []⟩
def d_is_way : He.DefD := ⟨("is_way", none), "is_way", "is_way", defArgs s_is_way, defBody s_is_way, defScope s_is_way, [], []⟩
def d_need_ways : He.DefD := ⟨("need_ways", none), "need_ways", "need_ways", defArgs s_need_ways, defBody s_need_ways, defScope s_need_ways, [], []⟩
def d_need_kind : He.DefD := ⟨("need_kind", none), "need_kind", "need_kind", defArgs s_need_kind, defBody s_need_kind, defScope s_need_kind, [], []⟩
def d_routes_from : He.DefD := ⟨("routes_from", none), "routes_from", "routes_from", defArgs s_routes_from, defBody s_routes_from, defScope s_routes_from, [], []⟩
def d_best_way : He.DefD := ⟨("best_way", none), "best_way", "best_way", defArgs s_best_way, defBody s_best_way, defScope s_best_way, [], []⟩
def d_law_dice : He.DefD := ⟨("_law_dice", none), "_law_dice", "_law_dice", defArgs s_law_dice, defBody s_law_dice, defScope s_law_dice, [], []⟩
def d_law_off : He.DefD := ⟨("_law_off", none), "_law_off", "_law_off", defArgs s_law_off, defBody s_law_off, defScope s_law_off, [], []⟩
def d_law_ways : He.DefD := ⟨("_law_ways", none), "_law_ways", "_law_ways", defArgs s_law_ways, defBody s_law_ways, defScope s_law_ways, [], []⟩
def d_law : He.DefD := ⟨("law", none), "law", "law", defArgs s_law, defBody s_law, defScope s_law, [], []⟩
def fn : List He.DefD := ([d_is_between, d_is_kind, d_is_way, d_need_ways, d_need_kind, d_routes_from, d_best_way, d_law_dice, d_law_off, d_law_ways, d_law] : List He.DefD)
def fa : List He.Fa := ([.glo "is_between", .glo "is_kind", .glo "is_way", .glo "need_ways", .glo "need_kind", .glo "routes_from", .glo "best_way", .glo "_law_dice", .glo "_law_off", .glo "_law_ways", .glo "law", .free "ValueError", .free "abs", .free "bool", .free "dict", .free "enumerate", .free "int", .free "isinstance", .free "len", .free "list", .free "min", .free "range", .free "set", .free "str", .free "sum", .free "tuple", .int "KINDS" 10, .int "MOST_LOSS" 9, .int "MOST_WAYS" 30, .glo "RULES"] : List He.Fa)
def ex (K : PySem.W.Frag) : Bool := (He.tupB K "RULES" [.str "same", .str "turn", .str "sort", .str "half", .str "next"] && true)
abbrev R0 : PySem.W.OpenRow := PySem.W.OpenLaw.row PySem.Challenge.rw_clipformats_k06_whole_best_routes_hang_t
abbrev hk : PySem.W.Hook := He.hookX 5 fa fn [] [] ex
def ob (s : PySem.W.SharedT) : He.AlX := He.obsX 5 fa fn [] [] ex (HandSHeadRun.getT s)
theorem ob_eq (s : PySem.W.SharedT) : ob s = hk.obs s.abs := He.obsX_eq (HandSHeadRun.getT_eq s)
def names : List PySem.Str := (["ClipError", "BadWays", "BadKind", "KINDS", "MOST_LOSS", "MOST_WAYS", "RULES", "is_between", "is_kind", "is_way", "need_ways", "need_kind", "routes_from", "best_way", "_law_dice", "_law_off", "_law_ways"] : List PySem.Str)
theorem run (w : World) : HandSHeadRun.RunEq R0 (PySem.W.view R0.prog [20]) hk ob 4000 names w := by
  intro os
  kernel_rfl
theorem ga_inj {mg : PySem.Str → Option Value} {x : PySem.Str} {a b : Addr} (h : mg x = some (.ref a)) (e : mg x = some (.ref b)) : a = b := by
  rw [h] at e; cases e; rfl
def facts {w : World} {K : PySem.W.Frag} {h : Heap} {mg : PySem.Str → Option Value} (X : K.In h) (G : h.Ns mainGlobals mg) (c : He.SaysX fa fn [] [] ex w h K) : Fx mg K :=
  have cd := c.t.d
  let p_is_between := cd.def_ 0 (d := d_is_between) rfl
  let p_is_kind := cd.def_ 1 (d := d_is_kind) rfl
  let p_is_way := cd.def_ 2 (d := d_is_way) rfl
  let p_need_ways := cd.def_ 3 (d := d_need_ways) rfl
  let p_need_kind := cd.def_ 4 (d := d_need_kind) rfl
  let p_routes_from := cd.def_ 5 (d := d_routes_from) rfl
  let p_best_way := cd.def_ 6 (d := d_best_way) rfl
  let p_law_dice := cd.def_ 7 (d := d_law_dice) rfl
  let p_law_off := cd.def_ 8 (d := d_law_off) rfl
  let p_law_ways := cd.def_ 9 (d := d_law_ways) rfl
  let p_law := cd.def_ 10 (d := d_law) rfl
  {
    a_is_between := He.fAd K d_is_between.at_
    f_is_between := Classical.choose p_is_between
    F_is_between := Classical.choose_spec p_is_between
    g_is_between := He.glo_ok X G (cd.fact 0 (f := .glo "is_between") rfl)
    b_is_between := (Classical.choose_spec p_is_between).bindsN fun _ _ _ _ _ _ us hl => match us, hl with | [_, _, _], _ => rfl
    a_is_kind := He.fAd K d_is_kind.at_
    f_is_kind := Classical.choose p_is_kind
    F_is_kind := Classical.choose_spec p_is_kind
    g_is_kind := He.glo_ok X G (cd.fact 1 (f := .glo "is_kind") rfl)
    b_is_kind := (Classical.choose_spec p_is_kind).bindsN fun _ _ _ _ _ _ us hl => match us, hl with | [_], _ => rfl
    a_is_way := He.fAd K d_is_way.at_
    f_is_way := Classical.choose p_is_way
    F_is_way := Classical.choose_spec p_is_way
    g_is_way := He.glo_ok X G (cd.fact 2 (f := .glo "is_way") rfl)
    b_is_way := (Classical.choose_spec p_is_way).bindsN fun _ _ _ _ _ _ us hl => match us, hl with | [_], _ => rfl
    a_need_ways := He.fAd K d_need_ways.at_
    f_need_ways := Classical.choose p_need_ways
    F_need_ways := Classical.choose_spec p_need_ways
    g_need_ways := He.glo_ok X G (cd.fact 3 (f := .glo "need_ways") rfl)
    b_need_ways := (Classical.choose_spec p_need_ways).bindsN fun _ _ _ _ _ _ us hl => match us, hl with | [_], _ => rfl
    a_need_kind := He.fAd K d_need_kind.at_
    f_need_kind := Classical.choose p_need_kind
    F_need_kind := Classical.choose_spec p_need_kind
    g_need_kind := He.glo_ok X G (cd.fact 4 (f := .glo "need_kind") rfl)
    b_need_kind := (Classical.choose_spec p_need_kind).bindsN fun _ _ _ _ _ _ us hl => match us, hl with | [_], _ => rfl
    a_routes_from := He.fAd K d_routes_from.at_
    f_routes_from := Classical.choose p_routes_from
    F_routes_from := Classical.choose_spec p_routes_from
    g_routes_from := He.glo_ok X G (cd.fact 5 (f := .glo "routes_from") rfl)
    b_routes_from := (Classical.choose_spec p_routes_from).bindsN fun _ _ _ _ _ _ us hl => match us, hl with | [_, _], _ => rfl
    a_best_way := He.fAd K d_best_way.at_
    f_best_way := Classical.choose p_best_way
    F_best_way := Classical.choose_spec p_best_way
    g_best_way := He.glo_ok X G (cd.fact 6 (f := .glo "best_way") rfl)
    b_best_way := (Classical.choose_spec p_best_way).bindsN fun _ _ _ _ _ _ us hl => match us, hl with | [_, _, _], _ => rfl
    a_law_dice := He.fAd K d_law_dice.at_
    f_law_dice := Classical.choose p_law_dice
    F_law_dice := Classical.choose_spec p_law_dice
    g_law_dice := He.glo_ok X G (cd.fact 7 (f := .glo "_law_dice") rfl)
    b_law_dice := (Classical.choose_spec p_law_dice).bindsN fun _ _ _ _ _ _ us hl => match us, hl with | [_, _], _ => rfl
    a_law_off := He.fAd K d_law_off.at_
    f_law_off := Classical.choose p_law_off
    F_law_off := Classical.choose_spec p_law_off
    g_law_off := He.glo_ok X G (cd.fact 8 (f := .glo "_law_off") rfl)
    b_law_off := (Classical.choose_spec p_law_off).bindsN fun _ _ _ _ _ _ us hl => match us, hl with | [_, _], _ => rfl
    a_law_ways := He.fAd K d_law_ways.at_
    f_law_ways := Classical.choose p_law_ways
    F_law_ways := Classical.choose_spec p_law_ways
    g_law_ways := He.glo_ok X G (cd.fact 9 (f := .glo "_law_ways") rfl)
    b_law_ways := (Classical.choose_spec p_law_ways).bindsN fun _ _ _ _ _ _ us hl => match us, hl with | [_], _ => rfl
    a_law := He.fAd K d_law.at_
    f_law := Classical.choose p_law
    F_law := Classical.choose_spec p_law
    g_law := He.glo_ok X G (cd.fact 10 (f := .glo "law") rfl)
    b_law := (Classical.choose_spec p_law).bindsN fun _ _ _ _ _ _ us hl => match us, hl with | [_], _ => rfl
    n_ValueError := He.free_ok X G (cd.fact 11 (f := .free "ValueError") rfl)
    n_abs := He.free_ok X G (cd.fact 12 (f := .free "abs") rfl)
    n_bool := He.free_ok X G (cd.fact 13 (f := .free "bool") rfl)
    n_dict := He.free_ok X G (cd.fact 14 (f := .free "dict") rfl)
    n_enumerate := He.free_ok X G (cd.fact 15 (f := .free "enumerate") rfl)
    n_int := He.free_ok X G (cd.fact 16 (f := .free "int") rfl)
    n_isinstance := He.free_ok X G (cd.fact 17 (f := .free "isinstance") rfl)
    n_len := He.free_ok X G (cd.fact 18 (f := .free "len") rfl)
    n_list := He.free_ok X G (cd.fact 19 (f := .free "list") rfl)
    n_min := He.free_ok X G (cd.fact 20 (f := .free "min") rfl)
    n_range := He.free_ok X G (cd.fact 21 (f := .free "range") rfl)
    n_set := He.free_ok X G (cd.fact 22 (f := .free "set") rfl)
    n_str := He.free_ok X G (cd.fact 23 (f := .free "str") rfl)
    n_sum := He.free_ok X G (cd.fact 24 (f := .free "sum") rfl)
    n_tuple := He.free_ok X G (cd.fact 25 (f := .free "tuple") rfl)
    i_KINDS := He.int_ok X G (cd.fact 26 (f := .int "KINDS" 10) rfl)
    i_MOST_LOSS := He.int_ok X G (cd.fact 27 (f := .int "MOST_LOSS" 9) rfl)
    i_MOST_WAYS := He.int_ok X G (cd.fact 28 (f := .int "MOST_WAYS" 30) rfl)
    a_RULES := He.ga K "RULES"
    g_RULES := He.glo_ok X G (cd.fact 29 (f := .glo "RULES") rfl)
    r_RULES := fun ρ F => by
      have hm : (He.tupB K "RULES" [.str "same", .str "turn", .str "sort", .str "half", .str "next"]) = true := by
        have z := c.more
        unfold ex at z
        simp only [Bool.and_eq_true] at z
        exact z.1
      unfold Rp
      refine ⟨_, _, rfl, He.tupB_ok hm F, ?_⟩
      exact Rps.cons rfl (Rps.cons rfl (Rps.cons rfl (Rps.cons rfl (Rps.cons rfl (Rps.nil))))) }
end Mm
namespace Mm
open PySem PySem.Spec PyProof.Rows L2
theorem calm_ok {P : Program} {w : World} {K : PySem.W.Frag} {mg : Str → Option Value} {base : Heap} {k : Nat} {f : Addr} {fd : FuncData} {ps : List Str} {sp : Sp} (F : FnOk P w K mg base (L2.CX P w) k f fd ps sp) :
    FnOk P w K mg base L2.CX0 k f fd ps (fun vs H Q _ => sp vs H Q fun _ _ _ => False) := by
  refine ⟨fun vs H Q E h => F.len vs H Q _ h, fun A outer s H args us vs Q E hr e0 hb hv h => codeAny_mono (F.run A outer s H args us vs Q _ hr e0 hb hv h) fun r s' q => ?_⟩
  cases r with
  | ok z => cases z <;> exact q
  | error e =>
    obtain ⟨_, _, _, _, _, _, _, _, _, _, _, _, z⟩ := q
    exact z.elim
/-- a law answers True to each script -/
def spTrue (K : PySem.W.Frag) (n : Nat) : Sp := fun vs H Q _ => ∃ (a : Addr) (ns : List Int), vs = [.ref a] ∧ SqL K H a (ns.map V.int) ∧ ns.length ≤ n ∧ ∀ H', Q (.bl true) H'
theorem true_sp {c : Ct} {n : Nat} {cf : List D → Hs → R D} (h : ∀ ns : List Int, ns.length ≤ n → ∃ hs', cf [.rl (ns.map D.int)] [] = .ok (.bl true) hs') {vs : List V} {H : Hp} {Q : VK} {E E' : XK} (q : spTrue c.K n vs H Q E) : SpC c cf vs H Q E' := by
  obtain ⟨a, ns, rfl, hS, hl, hQ⟩ := q
  obtain ⟨hs', e⟩ := h ns hl
  refine ⟨[], H, [], [.rl (ns.map D.int)], ⟨fun _ _ q => q, rfl, List.nodup_nil, fun i a o q => by simp at q, fun i a o q => by simp at q⟩, Rps.one ?_, ?_⟩
  · unfold Rp
    exact ⟨a, _, rfl, hS, ints_rps ns⟩
  · rw [e]
    intro w' l S v r
    obtain rfl : v = .bl true := r
    exact hQ _
end Mm
namespace Mm
def R.T {α : Type} (r : R α) (Q : α → Hs → Prop) : Prop := match r with
  | .ok a hs => Q a hs
  | _ => False
@[simp] theorem T_ok {α : Type} (a : α) (hs : Hs) (Q : α → Hs → Prop) : R.T (.ok a hs) Q = Q a hs := rfl
@[simp] theorem T_bad {α : Type} (Q : α → Hs → Prop) : R.T (.bad : R α) Q = False := rfl
@[simp] theorem T_bind {α β : Type} (r : R α) (k : α → Hs → R β) (Q : β → Hs → Prop) : R.T (r.bind k) Q = R.T r (fun a hs => R.T (k a hs) Q) := by cases r <;> rfl
theorem R.T.imp {α : Type} {r : R α} {Q Q' : α → Hs → Prop} (h : R.T r Q) (q : ∀ a hs, Q a hs → Q' a hs) : R.T r Q' := by
  cases r with
  | ok a hs => exact q _ _ h
  | exc _ _ _ => exact h
  | bad => exact h
theorem R.T.eq {α : Type} {r : R α} {Q : α → Hs → Prop} (h : R.T r Q) : ∃ a hs, r = .ok a hs ∧ Q a hs := by
  cases r with
  | ok a hs => exact ⟨a, hs, rfl, h⟩
  | exc _ _ _ => exact h.elim
  | bad => exact h.elim
def RS.T (r : RS) (N : Fs → Hs → Prop) (V : D → Hs → Prop) : Prop := match r with
  | .nx fs hs => N fs hs
  | .ret d hs => V d hs
  | _ => False
@[simp] theorem ST_nx (fs : Fs) (hs : Hs) (N : Fs → Hs → Prop) (V : D → Hs → Prop) : RS.T (.nx fs hs) N V = N fs hs := rfl
@[simp] theorem ST_ret (d : D) (hs : Hs) (N : Fs → Hs → Prop) (V : D → Hs → Prop) : RS.T (.ret d hs) N V = V d hs := rfl
@[simp] theorem ST_bad (N : Fs → Hs → Prop) (V : D → Hs → Prop) : RS.T .bad N V = False := rfl
@[simp] theorem ST_bindS {α : Type} (fs : Fs) (r : R α) (k : α → Hs → RS) (N : Fs → Hs → Prop) (V : D → Hs → Prop) : RS.T (R.bindS fs r k) N V = R.T r (fun a hs => RS.T (k a hs) N V) := by cases r <;> rfl
@[simp] theorem ST_seq (r : RS) (k : MS) (N : Fs → Hs → Prop) (V : D → Hs → Prop) : RS.T (r.seq k) N V = RS.T r (fun fs hs => RS.T (k fs hs) N V) V := by cases r <;> rfl
theorem RS.T.imp {r : RS} {N N' : Fs → Hs → Prop} {V V' : D → Hs → Prop} (h : RS.T r N V) (q : ∀ fs hs, N fs hs → N' fs hs) (q' : ∀ d hs, V d hs → V' d hs) : RS.T r N' V' := by
  cases r <;> first | exact q _ _ h | exact q' _ _ h | exact h
@[simp] theorem T_ite {α : Type} {c : Prop} [Decidable c] (a b : R α) (Q : α → Hs → Prop) : R.T (if c then a else b) Q = if c then R.T a Q else R.T b Q := by split <;> rfl
@[simp] theorem ST_ite {c : Prop} [Decidable c] (a b : RS) (N : Fs → Hs → Prop) (V : D → Hs → Prop) : RS.T (if c then a else b) N V = if c then RS.T a N V else RS.T b N V := by split <;> rfl
theorem T_call {np n kk : Nat} {m : MS} {ds : List D} {hs : Hs} {Q : D → Hs → Prop} (hl : ds.length = np)
    (h : RS.T (m (start n ds) hs) (fun _ h' => ∃ h1 more, h' = h1 ++ more ∧ h1.length = hs.length + kk ∧ (∀ i, i < hs.length + kk → h1[i]? = hs[i]? ∨ ∃ o, h1[i]? = some o ∧ closedO (hs.length + kk) o = true) ∧ Q .non h1)
      (fun d h' => ∃ h1 more, h' = h1 ++ more ∧ h1.length = hs.length + kk ∧ (∀ i, i < hs.length + kk → h1[i]? = hs[i]? ∨ ∃ o, h1[i]? = some o ∧ closedO (hs.length + kk) o = true) ∧ closed (hs.length + kk) d = true ∧ Q d h1)) : R.T (callD np n kk m ds hs) Q := by
  unfold callD
  rw [if_pos hl]
  unfold runD
  have key : ∀ (d : D) (h1 more : Hs), h1.length = hs.length + kk → (∀ i, i < hs.length + kk → h1[i]? = hs[i]? ∨ ∃ o, h1[i]? = some o ∧ closedO (hs.length + kk) o = true) → closed (hs.length + kk) d = true → Q d h1 → R.T (trim kk hs (.ok d (h1 ++ more))) Q := fun d h1 more e1 e2 e3 q => by
    unfold trim
    have tk : (h1 ++ more).take (hs.length + kk) = h1 := by rw [← e1]; simp
    simp only
    rw [if_pos ⟨e3, by omega, by simp; omega, fun i hi => by
      rw [List.getElem?_append_left (by omega)]
      exact e2 i hi⟩, tk]
    exact q
  cases e : m (start n ds) hs with
  | nx fs h' =>
    rw [e] at h
    obtain ⟨h1, more, rfl, e1, e2, q⟩ := h
    exact key _ _ _ e1 e2 rfl q
  | ret d h' =>
    rw [e] at h
    obtain ⟨h1, more, rfl, e1, e2, e3, q⟩ := h
    exact key _ _ _ e1 e2 e3 q
  | _ => rw [e] at h; exact h.elim
/-- a def that changes nothing -/
theorem T_call0 {np n : Nat} {m : MS} {ds : List D} {hs : Hs} {Q : D → Hs → Prop} (hl : ds.length = np)
    (h : RS.T (m (start n ds) hs) (fun _ h' => ∃ more, h' = hs ++ more ∧ Q .non hs) (fun d h' => ∃ more, h' = hs ++ more ∧ closed hs.length d = true ∧ Q d hs)) : R.T (callD np n 0 m ds hs) Q :=
  T_call hl (h.imp (fun _ h' ⟨more, e, q⟩ => ⟨hs, more, e, rfl, fun i _ => .inl rfl, q⟩) fun d h' ⟨more, e, c, q⟩ => ⟨hs, more, e, rfl, fun i _ => .inl rfl, c, q⟩)
/-- a loop over items, by an invariant of the items that are done -/
theorem T_for {k : Option (Nat × List D)} {g : MG} {body : MS} {V : D → Hs → Prop} (I : List D → Fs → Hs → Prop) {ds : List D} (N : Fs → Hs → Prop)
    (hk : ∀ done fs hs, I done fs hs → stands k hs)
    (step : ∀ done x rest fs hs, ds = done ++ x :: rest → I done fs hs → R.T (g x fs hs) fun fs' h1 => RS.T (body fs' h1) (fun fs2 h2 => I (done ++ [x]) fs2 h2) V)
    (fin : ∀ fs hs, I ds fs hs → N fs hs) {fs : Fs} {hs : Hs} (h0 : I [] fs hs) : RS.T (forL k g body ds fs hs) N V := by
  suffices H : ∀ (rest done : List D) (fs : Fs) (hs : Hs), ds = done ++ rest → I done fs hs → RS.T (forL k g body rest fs hs) N V from H ds [] fs hs rfl h0
  intro rest
  induction rest with
  | nil =>
    intro done fs hs e h
    unfold forL
    rw [if_pos (hk _ _ _ h)]
    refine fin fs hs ?_
    rw [e, List.append_nil]; exact h
  | cons x rest ih =>
    intro done fs hs e h
    unfold forL
    rw [if_pos (hk _ _ _ h)]
    rw [ST_bindS]
    refine (step done x rest fs hs e h).imp fun fs' h1 q => ?_
    cases qb : body fs' h1 with
    | nx fs2 h2 =>
      rw [qb] at q
      exact ih (done ++ [x]) fs2 h2 (by rw [e, List.append_assoc]; rfl) q
    | ret d h2 => rw [qb] at q; exact q
    | _ => rw [qb] at q; exact q.elim
theorem T_while {t : MT} {body : MS} {V : D → Hs → Prop} (I : Nat → Fs → Hs → Prop) (N : Fs → Hs → Prop)
    (step : ∀ n fs hs, I n fs hs → R.T (t fs hs) fun c h1 => if c = true then ∃ n', n = n' + 1 ∧ RS.T (body fs h1) (fun fs2 h2 => I n' fs2 h2) V else N fs h1) :
    ∀ (n m : Nat) {fs : Fs} {hs : Hs}, n < m → I n fs hs → RS.T (whileN t body m fs hs) N V := by
  intro n m
  induction m generalizing n with
  | zero => intro fs hs h; omega
  | succ m ih =>
    intro fs hs hn h
    unfold whileN
    rw [ST_bindS]
    refine (step n fs hs h).imp fun c h1 q => ?_
    split
    · rename_i hc
      rw [if_pos hc] at q
      obtain ⟨n', rfl, q⟩ := q
      cases qb : body fs h1 with
      | nx fs2 h2 =>
        rw [qb] at q
        exact ih n' (by omega) q
      | ret d h2 => rw [qb] at q; exact q
      | _ => rw [qb] at q; exact q.elim
    · rename_i hc
      rw [if_neg hc] at q
      exact q
/-- a comprehension without effects: each item by a function -/
theorem lc_eq {k : Option (Nat × List D)} {g : MG} {t : MT} {e : M} {fs : Fs} {hs : Hs} (p : D → Bool) (f : D → D) (hk : stands k hs) : ∀ (ds acc : List D), (∀ x ∈ ds, ∃ fs', g x fs hs = .ok fs' hs ∧ t fs' hs = .ok (p x) hs ∧ (p x = true → e fs' hs = .ok (f x) hs)) → acc.length + ds.length < 100000 →
    lcL k g t e fs ds acc hs = .ok (acc ++ (ds.filter p).map f) hs
  | [], acc, _, _ => by unfold lcL; rw [if_pos hk]; simp
  | x :: r, acc, h, hl => by
    obtain ⟨fs', e1, e2, e3⟩ := h x List.mem_cons_self
    unfold lcL
    simp only [List.length_cons] at hl
    rw [if_pos hk, e1]
    simp only [R.bindN_ok]
    rw [e2]
    simp only [R.bindN_ok]
    cases hp : p x with
    | true =>
      rw [if_pos rfl, e3 hp]
      simp only [R.bindN_ok]
      rw [if_pos (by omega), lc_eq p f hk r _ (fun y hy => h y (List.mem_cons_of_mem _ hy)) (by simp; omega)]
      simp [List.filter_cons, hp]
    | false =>
      rw [if_neg (by simp), lc_eq p f hk r _ (fun y hy => h y (List.mem_cons_of_mem _ hy)) (by omega)]
      simp [List.filter_cons, hp]
end Mm
namespace Mm
@[simp] theorem ixN_0 (n : Nat) : ixN (n + 1) 0 = some 0 := by unfold ixN; simp <;> omega
@[simp] theorem ixN_1 (n : Nat) : ixN (n + 1 + 1) 1 = some 1 := by unfold ixN; simp; omega
@[simp] theorem ixN_2 (n : Nat) : ixN (n + 1 + 1 + 1) 2 = some 2 := by unfold ixN; simp; omega
@[simp] theorem ixN_3 (n : Nat) : ixN (n + 1 + 1 + 1 + 1) 3 = some 3 := by unfold ixN; simp; omega
abbrev zi (ns : List Int) : List D := ns.map D.int
abbrev dz (ds : List Int) (tl : Hs) : Hs := .lst (zi ds) :: tl
theorem closed_zi (n : Nat) : ∀ ns : List Int, closedL n (zi ns) = true
  | [] => rfl
  | i :: r => by
    show closedL n (.int i :: zi r) = true
    unfold closedL
    rw [closed_zi n r]; rfl
theorem same_tl {ds ds' : List Int} {tl : Hs} {n : Nat} (i : Nat) : (dz ds' tl)[i]? = (dz ds tl)[i]? ∨ ∃ o, (dz ds' tl)[i]? = some o ∧ closedO n o = true := by
  cases i with
  | zero => exact .inr ⟨_, rfl, closed_zi n ds'⟩
  | succ i => exact .inl rfl
theorem off_rest {tl : Hs} {u : Int} (hu : 0 < u) (hu2 : u < 1073741824) {a : Int} {N : Fs → Hs → Prop} {V : D → Hs → Prop} (hV : ∀ (x y : Int) (s : List Int) (q : Int), V (.int (q % u)) (.lst (.int x :: .int y :: s.map .int) :: tl)) (b : Int) (s : List Int) :
    RS.T (sSeq (sIf (tVal (eBin vGt (eBin vIx (eVar 0) (eC (.int 1))) (eC (.int 0)))) (sSeq (sAsg (eBin vMod (eBin vIx (eVar 0) (eC (.int 1))) (eVar 1)) (Mm.gName 2))
      (sSeq (sAsg (eBin vFdiv (eBin vIx (eVar 0) (eC (.int 1))) (eVar 1)) (Mm.gSub setIx (eVar 0) (eC (.int 1)))) (sRet (eVar 2)))) sNx)
      (sSeq (sAsg (eBin vMod (eBin vAdd (eBin vMul (eBin vIx (eVar 0) (eC (.int 0))) (eC (.int 48271))) (eC (.int 11))) (eC (.int 2147483647))) (Mm.gSub setIx (eVar 0) (eC (.int 0))))
      (sRet (eBin vMod (eBin vFdiv (eBin vIx (eVar 0) (eC (.int 0))) (eC (.int 64))) (eVar 1)))) [some (.loc 0), some (.int u), none] (.lst (.int a :: .int b :: s.map .int) :: tl)) N V := by
  by_cases hb : 0 < b
  · simp [sSeq, sIf, sAsg, sRet, tVal, eBin, eVar, eC, vIx, seqOf, vGt, vI, vMod, vFdiv, Mm.gName, Mm.gSub, setIx, hb, hu, hu2]
    exact hV _ _ _ _
  · simp [sSeq, sIf, sAsg, sRet, sNx, tVal, eBin, eVar, eC, vIx, seqOf, vGt, vI, vMod, vFdiv, vMul, vAdd, big, Mm.gName, Mm.gSub, setIx, hb, hu, hu2]
    exact hV _ _ _ _
theorem off_body {tl : Hs} {u : Int} (hu : 0 < u) (hu2 : u < 1073741824) {a b : Int} {r : List Int} {N : Fs → Hs → Prop} {V : D → Hs → Prop} (hV : ∀ (x y : Int) (s : List Int) (q : Int), V (.int (q % u)) (.lst (.int x :: .int y :: s.map .int) :: tl)) :
    RS.T (m_law_off [some (.loc 0), some (.int u), none] (.lst (.int a :: .int b :: r.map .int) :: tl)) N V := by
  unfold m_law_off
  show RS.T (RS.seq _ _) _ _
  rw [ST_seq]
  by_cases hb : b = 0
  · subst hb
    cases r with
    | nil =>
      simp [sIf, tAnd, tVal, eBin, eVar, eC, vIx, seqOf, vEq, eqB, okd, res, deq, vGt, vI, eArgs, aCons, aNil, vLen, one1, sNx]
      exact off_rest hu hu2 hV 0 []
    | cons c s =>
      simp [sIf, tAnd, tVal, eBin, eVar, eC, vIx, seqOf, vEq, eqB, okd, res, deq, vGt, vI, eArgs, aCons, aNil, vLen, one1, sNx, sAsg, eMeth, isLst, mPopAt, int1, Mm.gSub, setIx]
      split
      · exact off_rest hu hu2 hV c s
      · omega
  · simp [sIf, tAnd, tVal, eBin, eVar, eC, vIx, seqOf, vEq, eqB, okd, res, deq, vGt, vI, eArgs, aCons, aNil, vLen, one1, sNx, hb]
    exact off_rest hu hu2 hV b r
theorem off_T {ds : List Int} {tl : Hs} {u : Int} (h : 2 ≤ ds.length) (hu : 0 < u) (hu2 : u < 1073741824) {Q : D → Hs → Prop} (hQ : ∀ (r : Int) (ds' : List Int), 0 ≤ r → r < u → 2 ≤ ds'.length → Q (.int r) (.lst (zi ds') :: tl)) : (c_law_off [.loc 0, .int u] (.lst (zi ds) :: tl)).T Q := by
  obtain ⟨a, b, r, rfl⟩ : ∃ a b r, ds = a :: b :: r := by
    match ds, h with
    | a :: b :: r, _ => exact ⟨a, b, r, rfl⟩
  unfold c_law_off
  refine T_call rfl ?_
  refine off_body hu hu2 fun x y s q => ?_
  exact ⟨dz (x :: y :: s) tl, [], by simp, rfl, fun i _ => same_tl (ds := a :: b :: r) i, rfl, hQ _ (x :: y :: s) (Int.emod_nonneg _ (by omega)) (Int.emod_lt_of_pos _ hu) (by simp)⟩
end Mm
namespace Mm
@[simp] theorem get_app {tl : Hs} {o : O} {r : Hs} : (tl ++ o :: r)[tl.length]? = some o := by simp
@[simp] theorem get_app1 {tl : Hs} {o p : O} {r : Hs} : (tl ++ o :: p :: r)[tl.length + 1]? = some p := by
  rw [List.getElem?_append_right (by omega)]; simp
@[simp] theorem set_app {tl : Hs} {o x : O} {r : Hs} : (tl ++ o :: r).set tl.length x = tl ++ x :: r := by
  rw [List.set_append_right _ _ (Nat.le_refl _)]; simp
@[simp] theorem set_app1 {tl : Hs} {o p x : O} {r : Hs} : (tl ++ o :: p :: r).set (tl.length + 1) x = tl ++ o :: x :: r := by
  rw [List.set_append_right _ _ (by omega)]; simp
theorem filter_zi (p : D → Bool) (ns : List Int) : (zi ns).filter p = zi (ns.filter fun i => p (.int i)) := by
  unfold zi; rw [List.filter_map]; rfl
theorem mem_zi {x : D} {ns : List Int} (h : x ∈ zi ns) : ∃ i ∈ ns, x = .int i := by
  obtain ⟨i, h1, h2⟩ := List.mem_map.mp h
  exact ⟨i, h1, h2.symm⟩
def isBig (d : D) : Bool := match d with
  | .int i => decide (1000000000000000000 ≤ i)
  | _ => false
theorem dice_T {ns : List Int} {k : Int} (hn : ns.length ≤ 63) {Q : D → Hs → Prop} (hQ : ∀ ds : List Int, 2 ≤ ds.length → Q (.loc 0) [.lst (zi ds)]) : (c_law_dice [.rl (zi ns), .int k] []).T Q := by
  unfold c_law_dice
  refine T_call rfl ?_
  unfold m_law_dice
  show RS.T (RS.seq _ _) _ _
  rw [ST_seq]
  simp only [sAsg, eVar, start, List.map_cons, List.map_nil, List.length_cons, List.length_nil, List.replicate, Mm.gName, List.getElem?_cons_zero, List.getElem?_cons_succ, List.cons_append, List.nil_append, R.bindS_ok, ST_nx, List.set_cons_succ, List.set_cons_zero]
  show RS.T (RS.seq _ _) _ _
  rw [ST_seq]
  simp only [sFor, iSeq, onlyL, eVar, List.getElem?_cons_zero, R.bind_ok, R.bindS_ok]
  refine T_for (fun done fs hs => ∃ v c, fs = [some (.rl (zi ns)), some (.int k), some (.int v), c] ∧ hs = []) _ ?_ ?_ ?_ ⟨_, _, rfl, rfl⟩
  · exact fun _ _ _ _ => trivial
  · rintro done x rest fs hs e ⟨v, c, rfl, rfl⟩
    obtain ⟨i, _, rfl⟩ := mem_zi (show x ∈ zi ns by rw [e]; simp)
    simp [Mm.gName, body_law_dice_0, sAsg, eBin, eVar, eC, eArgs, aCons, aNil, vMul, vAdd, vMod, vAbs, int1, big]
  · rintro fs hs ⟨v, c, rfl, rfl⟩
    have e : lcL none (Mm.gName 3) (tVal (eBin vGe (eVar 3) (eBin vPow (eC (.int 10)) (eC (.int 18))))) (eVar 3) (wipe [some (.rl (zi ns)), some (.int k), some (.int v), c] [3]) (zi ns) [] [] = .ok ([] ++ ((zi ns).filter isBig).map id) [] := by
      refine lc_eq (k := none) (hs := []) isBig id trivial (zi ns) [] (fun x hx => ?_) (by simp; omega)
      obtain ⟨i, _, rfl⟩ := mem_zi hx
      refine ⟨[some (.rl (zi ns)), some (.int k), some (.int v), some (.int i)], rfl, ?_, fun _ => rfl⟩
      simp [tVal, eBin, eVar, eC, vGe, vI, vPow, isBig]
    have e0 : ([D.int v, D.int 0]).length ≤ 100000 := by simp
    simp only [sRet, eBin, eArgs, aCons, aNil, eVar, eC, vLst, List.getElem?_cons_zero, List.getElem?_cons_succ, R.bind_ok, R.bindS_ok, eLc, iSeq, onlyL, if_pos e0]
    rw [e]
    simp only [R.bind_ok]
    rw [filter_zi]
    have hl : (ns.filter fun i => isBig (.int i)).length ≤ ns.length := List.length_filter_le _ _
    simp only [List.length_cons, List.length_nil, if_pos (show (0 + 1 + 1 : Nat) ≤ 100000 by decide), R.bind_ok, vAddO, listOf, List.nil_append, List.map_id]
    rw [if_pos (by simp; omega)]
    simp only [R.bindS_ok, ST_ret, List.nil_append]
    refine ⟨[.lst (zi (v :: 0 :: ns.filter fun i => isBig (.int i)))], [], rfl, rfl, fun i hi => ?_, rfl, hQ _ (by simp)⟩
    have : i = 0 := by omega
    subst this
    exact .inr ⟨_, rfl, closed_zi _ _⟩
theorem okd_l {n : Nat} {ds : List D} : okd n (.l ds) = okL n ds := by unfold okd; rfl
theorem okL_zi (n : Nat) : ∀ ns : List Int, okL (n + 1) (zi ns) = true
  | [] => by simp [zi, okL]
  | i :: r => by
    show okL (n + 1) (.int i :: zi r) = true
    unfold okL
    simp only
    rw [okL_zi n r]
    unfold okd; rfl
end Mm
namespace Mm
structure Wy where
  a : Int
  b : Int
  l : Int
  r : Str
def wyD (w : Wy) : D := .t [.int w.a, .int w.b, .int w.l, .str w.r]
def prD (p : Int × Int) : D := .t [.int p.1, .int p.2]
def rules : List Str := ["same", "turn", "sort", "half", "next"]
def Wy.p (w : Wy) : Int × Int := (w.a, w.b)
structure WyOk (w : Wy) : Prop where
  a0 : 0 ≤ w.a
  a1 : w.a < 10
  b0 : 0 ≤ w.b
  b1 : w.b < 10
  ne : w.a ≠ w.b
  l0 : 0 ≤ w.l
  l1 : w.l < 10
  rr : w.r ∈ rules
structure WaysOk (ws : List Wy) : Prop where
  ok : ∀ w ∈ ws, WyOk w
  nd : (ws.map Wy.p).Nodup
  len : ws.length ≤ 30
theorem deq_pr (p q : Int × Int) : deq (prD p) (prD q) = decide (p = q) := by
  obtain ⟨a, b⟩ := p
  obtain ⟨x, y⟩ := q
  simp [prD, deq, deqL]
  by_cases h1 : a = x <;> by_cases h2 : b = y <;> simp [h1, h2]
theorem okd_pr (p : Int × Int) (n : Nat) : okd (n + 2) (prD p) = true := by simp [prD, okd, okL]
theorem okL_prs (n : Nat) : ∀ ps : List (Int × Int), okL (n + 3) (ps.map prD) = true
  | [] => by simp [okL]
  | p :: r => by
    show okL (n + 3) (prD p :: r.map prD) = true
    unfold okL
    simp only
    rw [okL_prs n r, okd_pr]; rfl
theorem any_pr (p : Int × Int) : ∀ ps : List (Int × Int), ((ps.map prD).any fun z => deq z (prD p)) = decide (p ∈ ps)
  | [] => by simp
  | q :: r => by
    rw [List.map_cons, List.any_cons, any_pr p r, deq_pr]
    rw [show decide (q = p) = decide (p = q) from by simp [eq_comm]]
    simp
theorem notIn_pr {p : Int × Int} {ps : List (Int × Int)} {n : Nat} {hs : Hs} (h : hs[n]? = some (.lst (ps.map prD))) : vNotIn (prD p) (.loc n) hs = .ok (.bl (!decide (p ∈ ps))) hs := by
  unfold vNotIn inB
  simp only [listOf, h, okd_pr p 58, okd_l, okL_prs 57 ps, any_pr]
  rfl
theorem ix_lit {ds : List D} {r : Int} {hs : Hs} {Q : D → Hs → Prop} (h0 : 0 ≤ r) (h1 : r < ds.length) (hQ : ∀ d ∈ ds, Q d hs) : (vIx (.l ds) (.int r) hs).T Q := by
  have e : ixN ds.length r = some r.toNat := by unfold ixN; rw [if_pos h0, if_pos h1]
  have hi : r.toNat < ds.length := by omega
  unfold vIx
  simp only [seqOf, e, Option.bind_some, List.getElem?_eq_getElem hi]
  exact hQ _ (List.getElem_mem hi)
/-- a def that throws the dice -/
theorem T_callD {np n : Nat} {m : MS} {args : List D} {ds : List Int} {tl : Hs} {Q : D → Hs → Prop} (hl : args.length = np)
    (h : ∀ (N : Fs → Hs → Prop) (V : D → Hs → Prop), (∀ (d : D) (ds' : List Int) (more : Hs), 2 ≤ ds'.length → closed (tl.length + 1) d = true → Q d (.lst (zi ds') :: tl) → V d (.lst (zi ds') :: (tl ++ more))) → RS.T (m (start n args) (.lst (zi ds) :: tl)) N V) : (callD np n 0 m args (.lst (zi ds) :: tl)).T Q :=
  T_call hl (h _ _ fun d ds' more h2 hc q => ⟨.lst (zi ds') :: tl, more, rfl, rfl, fun i _ => same_tl i, hc, q⟩)
theorem closed_wy (n : Nat) : ∀ ws : List Wy, closedL n (ws.map wyD) = true
  | [] => rfl
  | w :: r => by
    show closedL n (wyD w :: r.map wyD) = true
    unfold closedL
    rw [closed_wy n r]
    simp [wyD, closed, closedL]
theorem ne_int {a b : Int} {hs : Hs} : vNe (.int a) (.int b) hs = .ok (.bl (!decide (a = b))) hs := by
  simp [vNe, eqB, okd, res, deq]
  by_cases h : a = b <;> simp [h]
theorem append_T {n : Nat} {es : List D} {d : D} {hs : Hs} (h : hs[n]? = some (.lst es)) (hl : es.length < 100000) : mAppend (.loc n) [d] hs = .ok .non (hs.set n (.lst (es ++ [d]))) := by
  unfold mAppend
  simp only [one1, h, if_pos hl]
theorem isLst_loc {n : Nat} {es : List D} {hs : Hs} (h : hs[n]? = some (.lst es)) : isLst (.loc n) hs = true := by
  unfold isLst
  simp only [h]
theorem ways_body {c6 c7 c1 : Option D} {m f : Int} {tl : Hs} {ws : List Wy} {ds : List Int} (f0 : 0 < f) (f1 : f ≤ 10) (hd : 2 ≤ ds.length) (hws : ws.length < 40) {N : Fs → Hs → Prop} {V : D → Hs → Prop}
    (h0 : ∀ (c6 : Option D) (ds' : List Int), 2 ≤ ds'.length → N [some (.loc 0), c1, some (.int m), some (.int f), some (.loc (tl.length + 1)), some (.loc (tl.length + 2)), c6, c7] (.lst (zi ds') :: (tl ++ [.lst (ws.map wyD), .lst ((ws.map Wy.p).map prD)])))
    (h1 : ∀ (w : Wy) (c6 c7 : Option D) (ds' : List Int), WyOk w → w.p ∉ ws.map Wy.p → 2 ≤ ds'.length → N [some (.loc 0), c1, some (.int m), some (.int f), some (.loc (tl.length + 1)), some (.loc (tl.length + 2)), c6, c7] (.lst (zi ds') :: (tl ++ [.lst ((ws ++ [w]).map wyD), .lst (((ws ++ [w]).map Wy.p).map prD)]))) :
    RS.T (body_law_ways_0 [some (.loc 0), c1, some (.int m), some (.int f), some (.loc (tl.length + 1)), some (.loc (tl.length + 2)), c6, c7] (.lst (zi ds) :: (tl ++ [.lst (ws.map wyD), .lst ((ws.map Wy.p).map prD)]))) N V := by
  simp only [body_law_ways_0, sSeq,ST_seq,sAsg,sPar,sExpr,sIf,sRet,sRetN,sNx,ST_bindS,eMeth,eArgs,aCons,aNil,eBin,eUn,eC,eVar,eAnd,eOr,eNot,eIf,tVal,tAnd,tOr,tNot,tYes,gName,gTup,gCons,gNil,gSub,aa',ab',T_bind,T_ok,ba',bb',bc',T_ite,ST_nx,ST_ret,ac',ad',ae',af',ag',if_true,if_false,ah']
  refine off_T hd f0 (by omega) fun a d1 a0 a1 hd1 => ?_
  refine off_T hd1 f0 (by omega) fun b d2 b0 b1 hd2 => ?_
  have epr : D.t [.int a, .int b] = prD (a, b) := rfl
  have e2 : ([D.int a, D.int b]).length ≤ 100000 := by simp
  have i0 : ∀ hs, vIx (.t [.int a, .int b]) (.int 0) hs = .ok (.int a) hs := fun _ => rfl
  have i1 : ∀ hs, vIx (.t [.int a, .int b]) (.int 1) hs = .ok (.int b) hs := fun _ => rfl
  simp only [vTup, if_pos e2, i0, i1, ne_int, sSeq,ST_seq,sAsg,sPar,sExpr,sIf,sRet,sRetN,sNx,ST_bindS,eMeth,eArgs,aCons,aNil,eBin,eUn,eC,eVar,eAnd,eOr,eNot,eIf,tVal,tAnd,tOr,tNot,tYes,gName,gTup,gCons,gNil,gSub,aa',ab',T_bind,T_ok,ba',bb',bc',T_ite,ST_nx,ST_ret,ac',ad',ae',af',ag',if_true,if_false,ah']
  by_cases hab : a = b
  · simp only [hab, decide_true, sSeq,ST_seq,sAsg,sPar,sExpr,sIf,sRet,sRetN,sNx,ST_bindS,eMeth,eArgs,aCons,aNil,eBin,eUn,eC,eVar,eAnd,eOr,eNot,eIf,tVal,tAnd,tOr,tNot,tYes,gName,gTup,gCons,gNil,gSub,aa',ab',T_bind,T_ok,ba',bb',bc',T_ite,ST_nx,ST_ret,ac',ad',ae',af',ag',if_true,if_false,ah']
    exact h0 _ d2 hd2
  · simp only [hab, decide_false, sSeq,ST_seq,sAsg,sPar,sExpr,sIf,sRet,sRetN,sNx,ST_bindS,eMeth,eArgs,aCons,aNil,eBin,eUn,eC,eVar,eAnd,eOr,eNot,eIf,tVal,tAnd,tOr,tNot,tYes,gName,gTup,gCons,gNil,gSub,aa',ab',T_bind,T_ok,ba',bb',bc',T_ite,ST_nx,ST_ret,ac',ad',ae',af',ag',if_true,if_false,ah']
    rw [epr]
    rw [notIn_pr (ps := ws.map Wy.p) (by simp)]
    by_cases hm : (a, b) ∈ ws.map Wy.p
    · simp only [hm, decide_true, sSeq,ST_seq,sAsg,sPar,sExpr,sIf,sRet,sRetN,sNx,ST_bindS,eMeth,eArgs,aCons,aNil,eBin,eUn,eC,eVar,eAnd,eOr,eNot,eIf,tVal,tAnd,tOr,tNot,tYes,gName,gTup,gCons,gNil,gSub,aa',ab',T_bind,T_ok,ba',bb',bc',T_ite,ST_nx,ST_ret,ac',ad',ae',af',ag',if_true,if_false,ah']
      exact h0 _ d2 hd2
    · have hl2 : (List.map prD (List.map Wy.p ws)).length < 100000 := by simp; omega
      have hl3 : (List.map wyD ws).length < 100000 := by simp; omega
      simp only [hm, decide_false, sSeq,ST_seq,sAsg,sPar,sExpr,sIf,sRet,sRetN,sNx,ST_bindS,eMeth,eArgs,aCons,aNil,eBin,eUn,eC,eVar,eAnd,eOr,eNot,eIf,tVal,tAnd,tOr,tNot,tYes,gName,gTup,gCons,gNil,gSub,aa',ab',T_bind,T_ok,ba',bb',bc',T_ite,ST_nx,ST_ret,ac',ad',ae',af',ag',if_true,if_false,ah']
      rw [isLst_loc (es := (ws.map Wy.p).map prD) (by simp)]
      rw [append_T (n := tl.length + 2) (es := (ws.map Wy.p).map prD) (by simp) hl2]
      have eset : ∀ o : O, (O.lst (zi d2) :: (tl ++ [.lst (ws.map wyD), .lst ((ws.map Wy.p).map prD)])).set (tl.length + 2) o = O.lst (zi d2) :: (tl ++ [.lst (ws.map wyD), o]) := fun o => by simp
      have e3 : ([D.int 3, D.int 10]).length ≤ 100000 := by simp
      simp only [eset, vLst, if_pos e3, sSeq,ST_seq,sAsg,sPar,sExpr,sIf,sRet,sRetN,sNx,ST_bindS,eMeth,eArgs,aCons,aNil,eBin,eUn,eC,eVar,eAnd,eOr,eNot,eIf,tVal,tAnd,tOr,tNot,tYes,gName,gTup,gCons,gNil,gSub,aa',ab',T_bind,T_ok,ba',bb',bc',T_ite,ST_nx,ST_ret,ac',ad',ae',af',ag',if_true,if_false,ah']
      refine off_T hd2 (by decide) (by decide) fun r1 d3 q0 q1 hd3 => ?_
      refine ix_lit q0 (by simpa using q1) fun lim hlim => ?_
      obtain ⟨u, rfl, u0, u1⟩ : ∃ u : Int, lim = .int u ∧ 0 < u ∧ u ≤ 10 := by
        simp at hlim
        rcases hlim with rfl | rfl <;> exact ⟨_, rfl, by decide, by decide⟩
      refine off_T hd3 u0 (by omega) fun l d4 l0 l1 hd4 => ?_
      have e5 : ([D.str "same", D.str "turn", D.str "sort", D.str "half", D.str "next"]).length ≤ 100000 := by simp
      rw [isLst_loc (es := ws.map wyD) (by simp)]
      simp only [if_pos e5, sSeq,ST_seq,sAsg,sPar,sExpr,sIf,sRet,sRetN,sNx,ST_bindS,eMeth,eArgs,aCons,aNil,eBin,eUn,eC,eVar,eAnd,eOr,eNot,eIf,tVal,tAnd,tOr,tNot,tYes,gName,gTup,gCons,gNil,gSub,aa',ab',T_bind,T_ok,ba',bb',bc',T_ite,ST_nx,ST_ret,ac',ad',ae',af',ag',if_true,if_false,ah']
      refine off_T hd4 (by decide) (by decide) fun r2 d5 q0 q1 hd5 => ?_
      refine ix_lit q0 (by simpa using q1) fun rule hrule => ?_
      obtain ⟨rr, rfl, hrr⟩ : ∃ u : Str, rule = .str u ∧ u ∈ rules := by
        simp at hrule
        rcases hrule with rfl | rfl | rfl | rfl | rfl <;> exact ⟨_, rfl, by simp [rules]⟩
      have e6 : ([D.int l, D.str rr]).length ≤ 100000 := by simp
      have ea : ∀ hs, vAdd (prD (a, b)) (.t [.int l, .str rr]) hs = .ok (wyD ⟨a, b, l, rr⟩) hs := fun hs => by
        simp [prD, vAdd, wyD]
      simp only [vTup, if_pos e6, ea, sSeq,ST_seq,sAsg,sPar,sExpr,sIf,sRet,sRetN,sNx,ST_bindS,eMeth,eArgs,aCons,aNil,eBin,eUn,eC,eVar,eAnd,eOr,eNot,eIf,tVal,tAnd,tOr,tNot,tYes,gName,gTup,gCons,gNil,gSub,aa',ab',T_bind,T_ok,ba',bb',bc',T_ite,ST_nx,ST_ret,ac',ad',ae',af',ag',if_true,if_false,ah']
      rw [append_T (n := tl.length + 1) (es := ws.map wyD) (by simp) hl3]
      have eset2 : ∀ o p : O, (O.lst (zi d5) :: (tl ++ [.lst (ws.map wyD), p])).set (tl.length + 1) o = O.lst (zi d5) :: (tl ++ [o, p]) := fun o p => by simp
      simp only [eset2, sSeq,ST_seq,sAsg,sPar,sExpr,sIf,sRet,sRetN,sNx,ST_bindS,eMeth,eArgs,aCons,aNil,eBin,eUn,eC,eVar,eAnd,eOr,eNot,eIf,tVal,tAnd,tOr,tNot,tYes,gName,gTup,gCons,gNil,gSub,aa',ab',T_bind,T_ok,ba',bb',bc',T_ite,ST_nx,ST_ret,ac',ad',ae',af',ag',if_true,if_false,ah']
      have := h1 ⟨a, b, l, rr⟩ (some (prD (a, b))) (some (.int l)) d5 ⟨a0, by show a < 10; omega, b0, by show b < 10; omega, hab, l0, by show l < 10; omega, hrr⟩ hm hd5
      simpa [Wy.p] using this
theorem ways_T {ds : List Int} {tl : Hs} (h : 2 ≤ ds.length) {Q : D → Hs → Prop} (hQ : ∀ (ws : List Wy) (ds' : List Int), WaysOk ws → 2 ≤ ds'.length → Q (.l (ws.map wyD)) (.lst (zi ds') :: tl)) : (c_law_ways [.loc 0] (.lst (zi ds) :: tl)).T Q := by
  unfold c_law_ways
  refine T_callD rfl fun N V hV => ?_
  unfold m_law_ways
  simp [sSeq, sAsg, sPar, sIf, sExpr, sRet, sRetN, sNx, eVar, eC, eBin, eUn, eArgs, aCons, aNil, eMeth, eAnd, eOr, eNot, eIf, tVal, tAnd, tOr, tNot, tYes, Mm.gName, Mm.gTup, Mm.gCons, Mm.gNil, Mm.gSub, one1, int1, two2, start, vLst, vLstO]
  refine off_T h (by decide) (by decide) fun r1 d1 h0 h1 hd1 => ?_
  refine ix_lit h0 (by simpa using h1) fun most hm => ?_
  refine off_T hd1 (by decide) (by decide) fun r2 d2 h0 h1 hd2 => ?_
  refine ix_lit h0 (by simpa using h1) fun few hf => ?_
  obtain ⟨m, rfl, m0, m1⟩ : ∃ m : Int, most = .int m ∧ 0 ≤ m ∧ m ≤ 30 := by
    simp at hm
    rcases hm with rfl | rfl | rfl <;> exact ⟨_, rfl, by decide, by decide⟩
  obtain ⟨f, rfl, f0, f1⟩ : ∃ m : Int, few = .int m ∧ 0 < m ∧ m ≤ 10 := by
    simp at hf
    rcases hf with rfl | rfl | rfl <;> exact ⟨_, rfl, by decide, by decide⟩
  simp [sSeq, sAsg, sPar, sIf, sExpr, sRet, sRetN, sNx, eVar, eC, eBin, eUn, eArgs, aCons, aNil, eMeth, eAnd, eOr, eNot, eIf, tVal, tAnd, tOr, tNot, tYes, Mm.gName, Mm.gTup, Mm.gCons, Mm.gNil, Mm.gSub, one1, int1, two2, sFor, Mm.iRng1, vAdd]
  refine off_T hd2 (by omega) (by omega) fun k d3 k0 k1 hd3 => ?_
  have hk : -lim ≤ k ∧ k ≤ lim := by unfold lim; omega
  simp [hk]
  refine T_for (fun done fs hs => ∃ (c1 c6 c7 : Option D) (ws : List Wy) (ds : List Int), fs = [some (.loc 0), c1, some (.int m), some (.int f), some (.loc (tl.length + 1)), some (.loc (tl.length + 2)), c6, c7] ∧ hs = .lst (zi ds) :: (tl ++ [.lst (ws.map wyD), .lst ((ws.map Wy.p).map prD)]) ∧
    2 ≤ ds.length ∧ (∀ w ∈ ws, WyOk w) ∧ (ws.map Wy.p).Nodup ∧ ws.length ≤ done.length) _ ?_ ?_ ?_ ⟨_, _, _, [], d3, rfl, rfl, hd3, by simp, by simp, by simp⟩
  · exact fun _ _ _ _ => trivial
  · rintro done x rest fs hs e ⟨c1, c6, c7, ws, ds, rfl, rfl, hd, hw, hnd, hl⟩
    have hlen : done.length < 31 := by
      have e2 := congrArg List.length e
      rw [rng_len] at e2
      simp at e2
      omega
    simp only [Mm.gName, T_ok, List.set_cons_zero, List.set_cons_succ]
    refine ways_body f0 f1 hd (by omega) (fun c6 ds' h2 => ?_) fun w c6 c7 ds' hw' hn h2 => ?_
    · exact ⟨_, _, _, ws, ds', rfl, rfl, h2, hw, hnd, by simp; omega⟩
    · refine ⟨_, _, _, ws ++ [w], ds', rfl, rfl, h2, ?_, ?_, by simp; omega⟩
      · intro y hy
        rcases List.mem_append.mp hy with z | z
        · exact hw y z
        · have : y = w := by simpa using z
          rw [this]; exact hw'
      · rw [List.map_append]
        exact List.nodup_append.mpr ⟨hnd, by simp, fun x hx y hy z => hn (by
          have : y = w.p := by simpa using hy
          rw [← this, ← z]; exact hx)⟩
  · rintro fs hs ⟨c1, c6, c7, ws, ds, rfl, rfl, hd, hw, hnd, hl⟩
    rw [rng_len] at hl
    simp [sSeq, sAsg, sPar, sIf, sExpr, sRet, sRetN, sNx, eVar, eC, eBin, eUn, eArgs, aCons, aNil, eMeth, eAnd, eOr, eNot, eIf, tVal, tAnd, tOr, tNot, tYes, Mm.gName, Mm.gTup, Mm.gCons, Mm.gNil, Mm.gSub, one1, int1, two2, eFrz, frz]
    exact hV _ ds _ hd (by unfold closed; exact closed_wy _ _) (hQ ws ds ⟨hw, hnd, by omega⟩ hd)
structure KsOk (ks : List Int) : Prop where
  lo : ∀ k ∈ ks, 0 ≤ k
  hi : ∀ k ∈ ks, k < 10
  nd : ks.Nodup
  ne : ks ≠ []
theorem nd_le {α : Type} [DecidableEq α] : ∀ {l m : List α}, l.Nodup → (∀ x ∈ l, x ∈ m) → l.length ≤ m.length
  | [], m, _, _ => Nat.zero_le _
  | x :: l, m, h, hs => by
    obtain ⟨h1, h2⟩ := List.nodup_cons.mp h
    have hx := hs x List.mem_cons_self
    have := nd_le (m := m.erase x) h2 fun y hy => (List.mem_erase_of_ne (fun (z : y = x) => h1 (z ▸ hy))).mpr (hs y (List.mem_cons_of_mem _ hy))
    rw [List.length_erase_of_mem hx] at this
    have hp : 0 < m.length := List.length_pos_of_mem hx
    simp only [List.length_cons]
    omega
theorem ten_le {ks : List Int} (h : ks.Nodup) (h0 : ∀ k ∈ ks, 0 ≤ k) (h1 : ∀ k ∈ ks, k < 10) : ks.length ≤ 10 := by
  have := nd_le (m := (List.range 10).map fun (i : Nat) => (i : Int)) h fun k hk => by
    have a := h0 k hk
    have b := h1 k hk
    exact List.mem_map.mpr ⟨k.toNat, by simp; omega, by omega⟩
  simpa using this
theorem KsOk.len {ks : List Int} (h : KsOk ks) : ks.length ≤ 10 := ten_le h.nd h.lo h.hi
end Mm
namespace Mm
theorem eq_of_T {α : Type} {r : R α} {x : α} {hs : Hs} (h : r.T fun a h => a = x ∧ h = hs) : r = .ok x hs := by
  obtain ⟨a, h', e, rfl, rfl⟩ := h.eq
  exact e
/-- a def that changes nothing -/
theorem T_callP {np n : Nat} {m : MS} {ds : List D} {hs : Hs} {x : D} (hl : ds.length = np) (hc : closed hs.length x = true)
    (h : ∀ (N : Fs → Hs → Prop) (V : D → Hs → Prop), (V x hs) → (∀ more, V x (hs ++ more)) → (x = .non → ∀ fs, N fs hs) → (x = .non → ∀ fs more, N fs (hs ++ more)) → RS.T (m (start n ds) hs) N V) : callD np n 0 m ds hs = .ok x hs :=
  eq_of_T (T_call0 hl (h _ _ ⟨[], by simp, hc, rfl, rfl⟩ (fun more => ⟨more, rfl, hc, rfl, rfl⟩) (fun e fs => ⟨[], by simp, e.symm, rfl⟩) fun e fs more => ⟨more, rfl, e.symm, rfl⟩))
theorem between_eq {i lo hi : Int} {hs : Hs} : c_is_between [.int i, .int lo, .int hi] hs = .ok (.bl (decide (lo ≤ i) && decide (i ≤ hi))) hs := by
  refine T_callP rfl rfl fun N V h1 _ _ _ => ?_
  have e1 : vIsi [.int i, .ty "int"] hs = .ok (.bl true) hs := by rfl
  have e2 : vIsi [.int i, .ty "bool"] hs = .ok (.bl false) hs := by rfl
  simp only [m_is_between, start,al',am',an',ao',List.replicate,aq',ar', e1, e2, eChain, vLe, vI, sSeq,ST_seq,sAsg,sPar,sExpr,sIf,sRet,sRetN,sNx,ST_bindS,eMeth,eArgs,aCons,aNil,eBin,eUn,eC,eVar,eAnd,eOr,eNot,eIf,tVal,tAnd,tOr,tNot,tYes,gName,gTup,gCons,gNil,gSub,aa',ab',T_bind,T_ok,ba',bb',bc',T_ite,ST_nx,ST_ret,ac',ad',ae',af',ag',if_true,if_false,ah']
  by_cases h : lo ≤ i
  · simp only [h, decide_true, sSeq,ST_seq,sAsg,sPar,sExpr,sIf,sRet,sRetN,sNx,ST_bindS,eMeth,eArgs,aCons,aNil,eBin,eUn,eC,eVar,eAnd,eOr,eNot,eIf,tVal,tAnd,tOr,tNot,tYes,gName,gTup,gCons,gNil,gSub,aa',ab',T_bind,T_ok,ba',bb',bc',T_ite,ST_nx,ST_ret,ac',ad',ae',af',ag',if_true,if_false,ah']
    simpa [h] using h1
  · simp only [h, decide_false, sSeq,ST_seq,sAsg,sPar,sExpr,sIf,sRet,sRetN,sNx,ST_bindS,eMeth,eArgs,aCons,aNil,eBin,eUn,eC,eVar,eAnd,eOr,eNot,eIf,tVal,tAnd,tOr,tNot,tYes,gName,gTup,gCons,gNil,gSub,aa',ab',T_bind,T_ok,ba',bb',bc',T_ite,ST_nx,ST_ret,ac',ad',ae',af',ag',if_true,if_false,ah']
    simpa [h] using h1
theorem kind_eq {i : Int} {hs : Hs} : c_is_kind [.int i] hs = .ok (.bl (decide (0 ≤ i) && decide (i ≤ 9))) hs := by
  refine T_callP rfl rfl fun N V h1 _ _ _ => ?_
  simp only [m_is_kind, start,al',am',an',ao',List.replicate,aq',ar', vSub, between_eq, sSeq,ST_seq,sAsg,sPar,sExpr,sIf,sRet,sRetN,sNx,ST_bindS,eMeth,eArgs,aCons,aNil,eBin,eUn,eC,eVar,eAnd,eOr,eNot,eIf,tVal,tAnd,tOr,tNot,tYes,gName,gTup,gCons,gNil,gSub,aa',ab',T_bind,T_ok,ba',bb',bc',T_ite,ST_nx,ST_ret,ac',ad',ae',af',ag',if_true,if_false,ah']
  exact h1
theorem kind_ok {i : Int} {hs : Hs} (h0 : 0 ≤ i) (h1 : i < 10) : c_is_kind [.int i] hs = .ok (.bl true) hs := by
  rw [kind_eq]
  simp [h0, show i ≤ 9 by omega]
theorem in_str {x : Str} {xs : List Str} {hs : Hs} (h : x ∈ xs) : vIn (.str x) (.rt (xs.map .str)) hs = .ok (.bl true) hs := by
  have e1 : (xs.map D.str).all flatD = true := by
    rw [List.all_eq_true]
    intro d hd
    obtain ⟨y, _, rfl⟩ := List.mem_map.mp hd
    rfl
  have e2 : ((xs.map D.str).any fun z => deq z (.str x)) = true := by
    rw [List.any_eq_true]
    exact ⟨.str x, List.mem_map.mpr ⟨x, h, rfl⟩, by unfold deq; simp⟩
  unfold vIn inB
  simp only [e1, e2, flatD, Bool.and_self, if_true]
theorem way_ok {w : Wy} {hs : Hs} (h : WyOk w) : c_is_way [wyD w] hs = .ok (.bl true) hs := by
  refine T_callP rfl rfl fun N V h1 _ _ _ => ?_
  have e1 : vIsi [wyD w, .ty "tuple"] hs = .ok (.bl true) hs := by rfl
  have e2 : vLen [wyD w] hs = .ok (.int 4) hs := by rfl
  have e3 : vIsi [.str w.r, .ty "str"] hs = .ok (.bl true) hs := by rfl
  have i0 : vIx (wyD w) (.int 0) hs = .ok (.int w.a) hs := rfl
  have i1 : vIx (wyD w) (.int 1) hs = .ok (.int w.b) hs := rfl
  have i2 : vIx (wyD w) (.int 2) hs = .ok (.int w.l) hs := rfl
  have i3 : vIx (wyD w) (.int 3) hs = .ok (.str w.r) hs := rfl
  have e4 : vEq (.int w.a) (.int w.b) hs = .ok (.bl false) hs := by
    simp [vEq, eqB, okd, res, deq, h.ne]
  have e5 : vNe (.int 4) (.int 4) hs = .ok (.bl false) hs := by rw [ne_int]; rfl
  have e6 : vIn (.str w.r) (.rt [.str "same", .str "turn", .str "sort", .str "half", .str "next"]) hs = .ok (.bl true) hs := in_str (xs := rules) h.rr
  simp only [m_is_way, start,al',am',an',ao',List.replicate,aq',ar', e1, e2, e3, i0, i1, i2, i3, e4, e5, e6, kind_ok h.a0 h.a1, kind_ok h.b0 h.b1, between_eq, sSeq,ST_seq,sAsg,sPar,sExpr,sIf,sRet,sRetN,sNx,ST_bindS,eMeth,eArgs,aCons,aNil,eBin,eUn,eC,eVar,eAnd,eOr,eNot,eIf,tVal,tAnd,tOr,tNot,tYes,gName,gTup,gCons,gNil,gSub,aa',ab',T_bind,T_ok,ba',bb',bc',T_ite,ST_nx,ST_ret,ac',ad',ae',af',ag',if_true,if_false,ah']
  have hl : decide (w.l ≤ 9) = true := by have := h.l1; simp; omega
  simp only [h.l0, hl, decide_true, Bool.and_self, e3, i3, e6, sSeq,ST_seq,sAsg,sPar,sExpr,sIf,sRet,sRetN,sNx,ST_bindS,eMeth,eArgs,aCons,aNil,eBin,eUn,eC,eVar,eAnd,eOr,eNot,eIf,tVal,tAnd,tOr,tNot,tYes,gName,gTup,gCons,gNil,gSub,aa',ab',T_bind,T_ok,ba',bb',bc',T_ite,ST_nx,ST_ret,ac',ad',ae',af',ag',if_true,if_false,ah']
  exact h1
theorem dget_none {κ : Type} [DecidableEq κ] {kvs : List (κ × D)} {k : κ} (h : k ∉ kvs.map (·.1)) : dget kvs k = none := by
  induction kvs with
  | nil => rfl
  | cons p r ih =>
    simp only [List.map_cons, List.mem_cons, not_or] at h
    unfold dget
    rw [if_neg (fun z => h.1 z.symm), ih h.2]
theorem dput_new {κ : Type} [DecidableEq κ] {kvs : List (κ × D)} {k : κ} {v : D} (h : k ∉ kvs.map (·.1)) : dput kvs k v = kvs ++ [(k, v)] := by
  unfold dput
  rw [if_neg]
  intro z
  obtain ⟨p, h1, h2⟩ := List.any_eq_true.mp z
  exact h (List.mem_map.mpr ⟨p, h1, of_decide_eq_true h2⟩)
def pk (w : Wy) : List Key := [.inl w.a, .inl w.b]
theorem pk_inj {w y : Wy} (h : pk w = pk y) : w.p = y.p := by
  unfold pk at h
  simp at h
  unfold Wy.p
  rw [h.1, h.2]
theorem needWays_eq {ws : List Wy} {hs : Hs} (h : WaysOk ws) : c_need_ways [.l (ws.map wyD)] hs = .ok .non hs := by
  refine T_callP rfl rfl fun N V h1 h2 h3 h4 => ?_
  simp only [m_need_ways, eDk, eDt, start,al',am',an',ao',List.replicate,aq',ar', sFor, Mm.iEnum2, one1, sSeq,ST_seq,sAsg,sPar,sExpr,sIf,sRet,sRetN,sNx,ST_bindS,eMeth,eArgs,aCons,aNil,eBin,eUn,eC,eVar,eAnd,eOr,eNot,eIf,tVal,tAnd,tOr,tNot,tYes,gName,gTup,gCons,gNil,gSub,aa',ab',T_bind,T_ok,ba',bb',bc',T_ite,ST_nx,ST_ret,ac',ad',ae',af',ag',if_true,if_false,ah']
  refine T_for (fun done fs h' => ∃ (c2 c3 : Option D) (kvs : List (List Key × D)), fs = [some (.l (ws.map wyD)), some (.loc hs.length), c2, c3] ∧ h' = hs ++ [.dt kvs] ∧ kvs.map (·.1) = (ws.take done.length).map pk) _ ?_ ?_ ?_ ⟨_, _, [], rfl, rfl, by simp⟩
  · exact fun _ _ _ _ => trivial
  · rintro done x rest fs h' e ⟨c2, c3, kvs, rfl, rfl, hk⟩
    have ex : (enumD (ws.map wyD))[done.length]? = some x := by rw [e]; simp
    obtain ⟨y, ey, rfl⟩ := enum_get ex
    rw [List.getElem?_map] at ey
    obtain ⟨w, ew, rfl⟩ := Option.map_eq_some_iff.mp ey
    obtain ⟨hlt, ew2⟩ := List.getElem?_eq_some_iff.mp ew
    have hw : w ∈ ws := by rw [← ew2]; exact List.getElem_mem hlt
    have hlt30 : ¬ (30 : Int) ≤ (done.length : Int) := by have := h.len; omega
    have hnew : pk w ∉ kvs.map (·.1) := by
      rw [hk]
      intro hm
      obtain ⟨y, hy, ey⟩ := List.mem_map.mp hm
      obtain ⟨i, hi, ei⟩ := List.mem_iff_getElem.mp hy
      simp only [List.length_take] at hi
      rw [List.getElem_take] at ei
      have ep := pk_inj ey
      have hnd := h.nd
      have e1 : (ws.map Wy.p)[i]'(by simp; omega) = (ws.map Wy.p)[done.length]'(by simpa using hlt) := by
        simp only [List.getElem_map]
        rw [ei, ew2, ep]
      have := (List.getElem_inj hnd).mp e1
      omega
    have esl : ∀ h0, vSl (wyD w) none (some 2) h0 = .ok (prD w.p) h0 := fun h0 => rfl
    have eloc : (hs ++ [O.dt kvs])[hs.length]? = some (O.dt kvs) := by simp
    have ein : vIn (prD w.p) (.loc hs.length) (hs ++ [.dt kvs]) = .ok (.bl false) (hs ++ [.dt kvs]) := by
      have ekey : keysOf (prD w.p) = some (pk w) := rfl
      unfold vIn inB
      simp only [listOf, dlook, eloc, ekey, Option.map_some, dget_none hnew]
      rfl
    have eset : setIx (.loc hs.length) (prD w.p) (.bl true) (hs ++ [.dt kvs]) = .ok () (hs ++ [.dt (kvs ++ [(pk w, .bl true)])]) := by
      have ekey : keysOf (prD w.p) = some (pk w) := rfl
      have hl : kvs.length < 100000 := by
        have := congrArg List.length hk
        simp at this
        have := h.len
        omega
      unfold setIx
      simp only [eloc, ekey, if_pos hl, dput_new hnew]
      simp
    simp only [body_need_ways_0, vGe, vI, hlt30, decide_false, way_ok (h.ok w hw), eSl, oNone, oSome, esl, ein, eset, sSeq,ST_seq,sAsg,sPar,sExpr,sIf,sRet,sRetN,sNx,ST_bindS,eMeth,eArgs,aCons,aNil,eBin,eUn,eC,eVar,eAnd,eOr,eNot,eIf,tVal,tAnd,tOr,tNot,tYes,gName,gTup,gCons,gNil,gSub,aa',ab',T_bind,T_ok,ba',bb',bc',T_ite,ST_nx,ST_ret,ac',ad',ae',af',ag',if_true,if_false,ah']
    refine ⟨_, _, kvs ++ [(pk w, .bl true)], rfl, rfl, ?_⟩
    rw [List.map_append, hk]
    simp only [List.length_append, List.length_cons, List.length_nil]
    rw [List.take_add_one, ew]
    simp
  · rintro fs h' ⟨c2, c3, kvs, rfl, rfl, hk⟩
    exact h4 rfl _ _
theorem okd_t {n : Nat} {ds : List D} : okd n (.t ds) = okL n ds := by unfold okd; rfl
theorem intsOf_zi : ∀ ns : List Int, intsOf (zi ns) = some ns
  | [] => rfl
  | i :: r => by
    show intsOf (.int i :: zi r) = _
    unfold intsOf
    rw [intsOf_zi r]; rfl
end Mm
namespace Mm
structure Rt where
  l : Int
  n : Int
  r : List Int
def rtD (x : Rt) : D := .t [.int x.l, .int x.n, .t (zi x.r)]
abbrev Kv := List (Int × Rt)
def fk (kv : Kv) : List (Key × D) := kv.map fun p => (.inl p.1, rtD p.2)
def lk : Kv → Int → Option Rt
  | [], _ => none
  | p :: r, k => if p.1 = k then some p.2 else lk r k
def ptI (kv : Kv) (g : Int) (x : Rt) : Kv := if (kv.any fun p => decide (p.1 = g)) = true then kv.map (fun p => if p.1 = g then (p.1, x) else p) else kv ++ [(g, x)]
theorem fk_get : ∀ (kv : Kv) (g : Int), dget (fk kv) (.inl g) = (lk kv g).map rtD
  | [], g => rfl
  | p :: r, g => by
    show dget ((Sum.inl p.1, rtD p.2) :: fk r) (.inl g) = _
    unfold dget lk
    by_cases h : p.1 = g
    · simp [h]
    · simp [h, fk_get r g]
theorem fk_put (kv : Kv) (g : Int) (x : Rt) : dput (fk kv) (.inl g) (rtD x) = fk (ptI kv g x) := by
  have e : ((fk kv).any fun p => decide (p.1 = (Sum.inl g : Key))) = kv.any fun p => decide (p.1 = g) := by
    unfold fk
    rw [List.any_map]
    congr 1
    funext p
    simp
  unfold dput ptI
  rw [e]
  split
  · unfold fk
    rw [List.map_map, List.map_map]
    apply List.map_congr_left
    intro p _
    by_cases h : p.1 = g <;> simp [h]
  · unfold fk
    rw [List.map_append]; rfl
theorem fk_drop (kv : Kv) (g : Int) : ddrop (fk kv) (.inl g) = fk (kv.filter fun p => decide (p.1 ≠ g)) := by
  unfold ddrop fk
  rw [List.filter_map]
  congr 1
  apply List.filter_congr
  intro p _
  simp
theorem lk_none {kv : Kv} {g : Int} : lk kv g = none ↔ g ∉ kv.map (·.1) := by
  induction kv with
  | nil => simp [lk]
  | cons p r ih =>
    unfold lk
    by_cases h : p.1 = g
    · simp [h]
    · rw [if_neg h, ih]
      simp [Ne.symm h]
theorem lk_mem {kv : Kv} {g : Int} {x : Rt} (h : lk kv g = some x) : (g, x) ∈ kv := by
  induction kv with
  | nil => cases h
  | cons p r ih =>
    unfold lk at h
    by_cases e : p.1 = g
    · rw [if_pos e] at h
      cases h
      rw [← e]
      exact List.mem_cons_self
    · rw [if_neg e] at h
      exact List.mem_cons_of_mem _ (ih h)
theorem lk_nd {kv : Kv} {g : Int} {x : Rt} (nd : (kv.map (·.1)).Nodup) (h : (g, x) ∈ kv) : lk kv g = some x := by
  induction kv with
  | nil => cases h
  | cons p r ih =>
    simp only [List.map_cons, List.nodup_cons] at nd
    unfold lk
    rcases List.mem_cons.mp h with e | e
    · rw [← e]; simp
    · have : p.1 ≠ g := fun z => nd.1 (by rw [z]; exact List.mem_map.mpr ⟨_, e, rfl⟩)
      rw [if_neg this, ih nd.2 e]
theorem any_key {kv : Kv} {g : Int} : (kv.any fun p => decide (p.1 = g)) = true ↔ g ∈ kv.map (·.1) := by
  rw [List.any_eq_true, List.mem_map]
  exact ⟨fun ⟨p, h, e⟩ => ⟨p, h, of_decide_eq_true e⟩, fun ⟨p, h, e⟩ => ⟨p, h, decide_eq_true e⟩⟩
theorem pt_keys {kv : Kv} {g : Int} {x : Rt} : (ptI kv g x).map (·.1) = if g ∈ kv.map (·.1) then kv.map (·.1) else kv.map (·.1) ++ [g] := by
  unfold ptI
  by_cases h : g ∈ kv.map (·.1)
  · rw [if_pos h, if_pos (any_key.mpr h), List.map_map]
    apply List.map_congr_left
    intro p _
    by_cases e : p.1 = g <;> simp [e]
  · rw [if_neg h, if_neg (fun z => h (any_key.mp z)), List.map_append]; rfl
theorem pt_mem {kv : Kv} {g : Int} {x : Rt} {p : Int × Rt} (h : p ∈ ptI kv g x) : p = (g, x) ∨ (p ∈ kv ∧ p.1 ≠ g) := by
  unfold ptI at h
  split at h
  · obtain ⟨q, h1, h2⟩ := List.mem_map.mp h
    by_cases e : q.1 = g
    · rw [if_pos e] at h2
      exact .inl (by rw [← h2, e])
    · rw [if_neg e] at h2
      exact .inr (by rw [← h2]; exact ⟨h1, e⟩)
  · rename_i hn
    rcases List.mem_append.mp h with z | z
    · exact .inr ⟨z, fun e => hn (any_key.mpr (List.mem_map.mpr ⟨p, z, e⟩))⟩
    · exact .inl (by simpa using z)
theorem pt_nd {kv : Kv} {g : Int} {x : Rt} (h : (kv.map (·.1)).Nodup) : ((ptI kv g x).map (·.1)).Nodup := by
  rw [pt_keys]
  split
  · exact h
  · rename_i hn
    exact List.nodup_append.mpr ⟨h, by simp, fun a ha b hb z => hn (by
      have : b = g := by simpa using hb
      rw [← this, ← z]; exact ha)⟩
theorem pt_sub {kv : Kv} {g : Int} {x : Rt} {v : Int} : v ∈ (ptI kv g x).map (·.1) ↔ v = g ∨ v ∈ kv.map (·.1) := by
  rw [pt_keys]
  split
  · rename_i h
    constructor
    · exact .inr
    · rintro (rfl | z)
      · exact h
      · exact z
  · simp [or_comm]
theorem okd_rt (x : Rt) (n : Nat) : okd (n + 4) (rtD x) = true := by
  unfold rtD
  rw [okd_t]
  unfold okL okL okL okL
  simp [okd_t, okL_zi, okd]
theorem like_zi : ∀ xs ys : List Int, likeL (zi xs) (zi ys) = true
  | [], _ => by unfold likeL; rfl
  | _ :: _, [] => by simp [zi, likeL]
  | x :: xs, y :: ys => by
    show likeL (.int x :: zi xs) (.int y :: zi ys) = true
    unfold likeL
    rw [like_zi xs ys]
    simp [likeD]
theorem like_rt (x y : Rt) : likeD (rtD x) (rtD y) = true := by
  simp [rtD, likeD, likeL, like_zi]
theorem cmp_rt (x y : Rt) : cmpOk (rtD x) (rtD y) = true := by
  unfold cmpOk
  rw [okd_rt x 56, okd_rt y 56, like_rt]
  rfl
theorem min2_rt {x y : Rt} {hs : Hs} : vMin2 [rtD x, rtD y] hs = .ok (rtD (if dlt (rtD y) (rtD x) = true then y else x)) hs := by
  unfold vMin2 two2
  simp only [cmp_rt, Bool.and_self, if_true]
  split <;> rfl
theorem minOk_rt (kv : List Rt) : minOk (kv.map rtD) = true := by
  unfold minOk
  rw [List.all_eq_true]
  intro d hd
  obtain ⟨x, _, rfl⟩ := List.mem_map.mp hd
  rw [okd_rt x 56]
  simp only [Bool.true_and, Bool.and_eq_true, List.all_eq_true]
  refine ⟨rfl, fun e he => ?_⟩
  obtain ⟨y, _, rfl⟩ := List.mem_map.mp he
  exact like_rt x y
/-- the first of the least -/
def lsR (x : Rt) (xs : List Rt) : Rt := xs.foldl (fun a y => if dlt (rtD y) (rtD a) = true then y else a) x
theorem least_rt (x : Rt) (xs : List Rt) : leastD (rtD x) (xs.map rtD) = rtD (lsR x xs) := by
  unfold leastD lsR
  induction xs generalizing x with
  | nil => rfl
  | cons y r ih =>
    simp only [List.map_cons, List.foldl_cons]
    split
    · exact ih y
    · exact ih x
theorem lsR_mem (x : Rt) (xs : List Rt) : lsR x xs ∈ x :: xs := by
  unfold lsR
  induction xs generalizing x with
  | nil => exact List.mem_cons_self
  | cons y r ih =>
    simp only [List.foldl_cons]
    split
    · exact List.mem_cons_of_mem _ (ih y)
    · rcases List.mem_cons.mp (ih x) with z | z
      · rw [z]; exact List.mem_cons_self
      · exact List.mem_cons_of_mem _ (List.mem_cons_of_mem _ z)
theorem minV_rt {n : Nat} {p : Int × Rt} {r : Kv} {hs : Hs} (h : hs[n]? = some (.dk (fk (p :: r)))) : vMinV (.loc n) hs = .ok (rtD (lsR p.2 (r.map (·.2)))) hs := by
  have e1 : (fk (p :: r)).map (·.2) = (p.2 :: r.map (·.2)).map rtD := by
    unfold fk
    simp [List.map_map, Function.comp_def]
  have e2 : (fk r).map (·.2) = (r.map (·.2)).map rtD := by
    unfold fk
    simp [List.map_map, Function.comp_def]
  unfold vMinV
  simp only [dictOf, h]
  show (if minOk ((fk (p :: r)).map (·.2)) = true then R.ok (leastD (rtD p.2) ((fk r).map (·.2))) hs else .bad) = _
  rw [e1, minOk_rt, if_pos rfl, e2, least_rt]
def rowOf (best : Rt) (w : Wy) : Rt := ⟨best.l + w.l, best.n + 1, best.r ++ [w.b]⟩
def putRow (lev : Kv) (best : Rt) (w : Wy) : Kv := ptI lev w.b (if dlt (rtD (rowOf best w)) (rtD ((lk lev w.b).getD (rowOf best w))) = true then rowOf best w else (lk lev w.b).getD (rowOf best w))
def relax (found lev : Kv) (here : Int) (best : Rt) (w : Wy) : Kv := if w.a = here ∧ w.b ∉ found.map (·.1) then putRow lev best w else lev
theorem relax_T {c0 c1 c10 : Option D} {hs : Hs} {found lev : Kv} {here : Int} {best : Rt} {w : Wy} (hl : best.r.length < 1000) (hlev : lev.length < 1000) {N : Fs → Hs → Prop} {V : D → Hs → Prop}
    (hN : ∀ c10, N [c0, c1, some (.loc hs.length), some (.loc (hs.length + 1)), some (rtD best), some (.int here), some (.int w.a), some (.int w.b), some (.int w.l), some (.str w.r), c10] (hs ++ [.dk (fk found), .dk (fk (relax found lev here best w))])) :
    RS.T (body_routes_from_0 [c0, c1, some (.loc hs.length), some (.loc (hs.length + 1)), some (rtD best), some (.int here), some (.int w.a), some (.int w.b), some (.int w.l), some (.str w.r), c10] (hs ++ [.dk (fk found), .dk (fk lev)])) N V := by
  have e1 : ∀ h0, vEq (.int w.a) (.int here) h0 = .ok (.bl (decide (w.a = here))) h0 := fun h0 => by
    simp [vEq, eqB, okd, res, deq]
    by_cases h : w.a = here <;> simp [h]
  have g0 : (hs ++ [O.dk (fk found), O.dk (fk lev)])[hs.length]? = some (.dk (fk found)) := by simp
  have g1 : (hs ++ [O.dk (fk found), O.dk (fk lev)])[hs.length + 1]? = some (.dk (fk lev)) := by simp
  have e2 : vNotIn (.int w.b) (.loc hs.length) (hs ++ [.dk (fk found), .dk (fk lev)]) = .ok (.bl (decide (w.b ∉ found.map (·.1)))) (hs ++ [.dk (fk found), .dk (fk lev)]) := by
    unfold vNotIn inB
    simp only [listOf, dlook, g0, keyOf, Option.map_some, fk_get]
    cases e : lk found w.b with
    | none => simp [lk_none.mp e]
    | some x =>
      have : w.b ∈ found.map (·.1) := List.mem_map.mpr ⟨_, lk_mem e, rfl⟩
      simp only [Option.map_some, Option.isSome_some, Bool.not_true, this, not_true, decide_false]
  simp only [body_routes_from_0, e1, sSeq,ST_seq,sAsg,sPar,sExpr,sIf,sRet,sRetN,sNx,ST_bindS,eMeth,eArgs,aCons,aNil,eBin,eUn,eC,eVar,eAnd,eOr,eNot,eIf,tVal,tAnd,tOr,tNot,tYes,gName,gTup,gCons,gNil,gSub,aa',ab',T_bind,T_ok,ba',bb',bc',T_ite,ST_nx,ST_ret,ac',ad',ae',af',ag',if_true,if_false,ah']
  unfold relax at hN
  by_cases h1 : w.a = here
  · simp only [h1, decide_true, e2, sSeq,ST_seq,sAsg,sPar,sExpr,sIf,sRet,sRetN,sNx,ST_bindS,eMeth,eArgs,aCons,aNil,eBin,eUn,eC,eVar,eAnd,eOr,eNot,eIf,tVal,tAnd,tOr,tNot,tYes,gName,gTup,gCons,gNil,gSub,aa',ab',T_bind,T_ok,ba',bb',bc',T_ite,ST_nx,ST_ret,ac',ad',ae',af',ag',if_true,if_false,ah']
    by_cases h2 : w.b ∈ found.map (·.1)
    · simp only [h2, not_true, decide_false, sSeq,ST_seq,sAsg,sPar,sExpr,sIf,sRet,sRetN,sNx,ST_bindS,eMeth,eArgs,aCons,aNil,eBin,eUn,eC,eVar,eAnd,eOr,eNot,eIf,tVal,tAnd,tOr,tNot,tYes,gName,gTup,gCons,gNil,gSub,aa',ab',T_bind,T_ok,ba',bb',bc',T_ite,ST_nx,ST_ret,ac',ad',ae',af',ag',if_true,if_false,ah']
      simp only [h1, h2, not_true, and_false, if_false] at hN
      exact hN _
    · simp only [h1, h2, not_false_eq_true, and_self, if_true] at hN
      have i0 : ∀ h0, vIx (rtD best) (.int 0) h0 = .ok (.int best.l) h0 := fun _ => rfl
      have i1 : ∀ h0, vIx (rtD best) (.int 1) h0 = .ok (.int best.n) h0 := fun _ => rfl
      have i2 : ∀ h0, vIx (rtD best) (.int 2) h0 = .ok (.t (zi best.r)) h0 := fun _ => rfl
      have z1 : ∀ d : D, ([d] : List D).length ≤ 100000 := fun _ => by simp
      have z3 : ∀ d e f : D, ([d, e, f] : List D).length ≤ 100000 := fun _ _ _ => by simp
      have a1 : ∀ h0 (i j : Int), vAdd (.int i) (.int j) h0 = .ok (.int (i + j)) h0 := fun _ _ _ => rfl
      have a2 : ∀ h0, vAdd (.t (zi best.r)) (.t [.int w.b]) h0 = .ok (.t (zi (best.r ++ [w.b]))) h0 := fun h0 => by
        have : (zi best.r).length + ([D.int w.b]).length ≤ 100000 := by simp; omega
        show (if (zi best.r).length + ([D.int w.b]).length ≤ 100000 then R.ok (D.t (zi best.r ++ [D.int w.b])) h0 else .bad) = _
        rw [if_pos this]
        simp [zi]
      have er : D.t [.int (best.l + w.l), .int (best.n + 1), .t (zi (best.r ++ [w.b]))] = rtD (rowOf best w) := rfl
      have eD : isDct (.loc (hs.length + 1)) (hs ++ [.dk (fk found), .dk (fk lev)]) = true := by
        unfold isDct
        simp only [g1]
      have eG : mGet2 (.loc (hs.length + 1)) [.int w.b, rtD (rowOf best w)] (hs ++ [.dk (fk found), .dk (fk lev)]) = .ok (rtD ((lk lev w.b).getD (rowOf best w))) (hs ++ [.dk (fk found), .dk (fk lev)]) := by
        unfold mGet2
        simp only [two2, dlook, g1, keyOf, Option.map_some, fk_get]
        cases lk lev w.b <;> rfl
      have eS : ∀ x : Rt, setIx (.loc (hs.length + 1)) (.int w.b) (rtD x) (hs ++ [.dk (fk found), .dk (fk lev)]) = .ok () (hs ++ [.dk (fk found), .dk (fk (ptI lev w.b x))]) := fun x => by
        have : (fk lev).length < 100000 := by unfold fk; simp; omega
        unfold setIx
        simp only [g1, keyOf, if_pos this, fk_put]
        simp
      simp only [h2, not_false_eq_true, decide_true, i0, i1, i2, a1, a2, vTup, z1, z3, er, eD, eG, min2_rt, eS, sSeq,ST_seq,sAsg,sPar,sExpr,sIf,sRet,sRetN,sNx,ST_bindS,eMeth,eArgs,aCons,aNil,eBin,eUn,eC,eVar,eAnd,eOr,eNot,eIf,tVal,tAnd,tOr,tNot,tYes,gName,gTup,gCons,gNil,gSub,aa',ab',T_bind,T_ok,ba',bb',bc',T_ite,ST_nx,ST_ret,ac',ad',ae',af',ag',if_true,if_false,ah']
      exact hN _
  · simp only [h1, decide_false, sSeq,ST_seq,sAsg,sPar,sExpr,sIf,sRet,sRetN,sNx,ST_bindS,eMeth,eArgs,aCons,aNil,eBin,eUn,eC,eVar,eAnd,eOr,eNot,eIf,tVal,tAnd,tOr,tNot,tYes,gName,gTup,gCons,gNil,gSub,aa',ab',T_bind,T_ok,ba',bb',bc',T_ite,ST_nx,ST_ret,ac',ad',ae',af',ag',if_true,if_false,ah']
    simp only [h1, false_and, if_false] at hN
    exact hN _
end Mm
namespace Mm
/-- what can be reached -/
inductive Rch (ws : List Wy) (b : Int) : Int → Prop
  | here : Rch ws b b
  | step {w : Wy} : Rch ws b w.a → w ∈ ws → Rch ws b w.b
structure Ent (p : Int × Rt) (m : Nat) : Prop where
  last : p.2.r.getLast? = some p.1
  len : p.2.r.length ≤ m
structure Lev (ws : List Wy) (b : Int) (found lev : Kv) : Prop where
  fnd : (found.map (·.1)).Nodup
  lnd : (lev.map (·.1)).Nodup
  dis : ∀ v, v ∈ lev.map (·.1) → v ∉ found.map (·.1)
  lo : ∀ v, v ∈ found.map (·.1) ∨ v ∈ lev.map (·.1) → 0 ≤ v ∧ v < 10
  rc : ∀ v, v ∈ found.map (·.1) ∨ v ∈ lev.map (·.1) → Rch ws b v
  ent : ∀ p ∈ lev, Ent p (found.length + 1)
theorem Lev.llen {ws : List Wy} {b : Int} {found lev : Kv} (h : Lev ws b found lev) : lev.length ≤ 10 := by
  have := ten_le h.lnd (fun k hk => (h.lo k (.inr hk)).1) (fun k hk => (h.lo k (.inr hk)).2)
  simpa using this
theorem Lev.both {ws : List Wy} {b : Int} {found lev : Kv} (h : Lev ws b found lev) (hn : lev ≠ []) : found.length < 10 := by
  cases lev with
  | nil => exact absurd rfl hn
  | cons p r =>
    have hp : p.1 ∈ (p :: r).map (·.1) := by simp
    have := ten_le (ks := p.1 :: found.map (·.1)) (List.nodup_cons.mpr ⟨h.dis _ hp, h.fnd⟩) (fun k hk => by
      rcases List.mem_cons.mp hk with rfl | z
      · exact (h.lo _ (.inr hp)).1
      · exact (h.lo _ (.inl z)).1) (fun k hk => by
      rcases List.mem_cons.mp hk with rfl | z
      · exact (h.lo _ (.inr hp)).2
      · exact (h.lo _ (.inl z)).2)
    simp at this
    omega
theorem put_keys {lev : Kv} {best : Rt} {w : Wy} {v : Int} : v ∈ (putRow lev best w).map (·.1) ↔ v = w.b ∨ v ∈ lev.map (·.1) := pt_sub
theorem relax_keys {found lev : Kv} {here : Int} {best : Rt} {w : Wy} {v : Int} : v ∈ (relax found lev here best w).map (·.1) ↔ v ∈ lev.map (·.1) ∨ (w.a = here ∧ w.b ∉ found.map (·.1) ∧ v = w.b) := by
  unfold relax
  split
  · rename_i h
    rw [put_keys]
    exact ⟨fun z => z.elim (fun e => .inr ⟨h.1, h.2, e⟩) .inl, fun z => z.elim .inr fun e => .inl e.2.2⟩
  · rename_i h
    exact ⟨.inl, fun z => z.elim id fun e => absurd ⟨e.1, e.2.1⟩ h⟩
theorem Lev.relax {ws : List Wy} {b : Int} {found lev : Kv} {here : Int} {best : Rt} {w : Wy} (h : Lev ws b found lev) (hw : w ∈ ws) (ok : WyOk w) (hh : here ∈ found.map (·.1)) (hb : best.r.length + 1 ≤ found.length + 1) : Lev ws b found (relax found lev here best w) := by
  by_cases c : w.a = here ∧ w.b ∉ found.map (·.1)
  · refine ⟨h.fnd, ?_, fun v hv => ?_, fun v hv => ?_, fun v hv => ?_, fun p hp => ?_⟩
    · unfold Mm.relax
      rw [if_pos c]
      exact pt_nd h.lnd
    · rcases relax_keys.mp hv with z | z
      · exact h.dis v z
      · rw [z.2.2]; exact z.2.1
    · rcases hv with z | z
      · exact h.lo v (.inl z)
      · rcases relax_keys.mp z with z | z
        · exact h.lo v (.inr z)
        · rw [z.2.2]; exact ⟨ok.b0, ok.b1⟩
    · rcases hv with z | z
      · exact h.rc v (.inl z)
      · rcases relax_keys.mp z with z | z
        · exact h.rc v (.inr z)
        · rw [z.2.2]
          refine .step ?_ hw
          rw [z.1]
          exact h.rc _ (.inl hh)
    · unfold Mm.relax at hp
      rw [if_pos c] at hp
      rcases pt_mem hp with z | z
      · have er : Ent (w.b, rowOf best w) (found.length + 1) := ⟨by simp [rowOf], by simp [rowOf]; omega⟩
        rw [z]
        cases e : lk lev w.b with
        | none => simp only [Option.getD_none, ite_self]; exact er
        | some x =>
          simp only [Option.getD_some]
          split
          · exact er
          · exact h.ent _ (lk_mem e)
      · exact h.ent p z.1
  · unfold Mm.relax
    rw [if_neg c]
    exact h
theorem closed_rt {n : Nat} (x : Rt) : closed n (rtD x) = true := by
  simp [rtD, closed, closedL, closed_zi]
end Mm
namespace Mm
def lltB : List Int → List Int → Bool
  | [], [] => false
  | [], _ :: _ => true
  | _ :: _, [] => false
  | x :: xs, y :: ys => if x = y then lltB xs ys else decide (x < y)
def ltB (x y : Rt) : Bool := if x.l = y.l then (if x.n = y.n then lltB x.r y.r else decide (x.n < y.n)) else decide (x.l < y.l)
theorem dlt_zi : ∀ xs ys : List Int, dltL (zi xs) (zi ys) = lltB xs ys
  | [], [] => by simp [zi, dltL, lltB]
  | [], _ :: _ => by simp [zi, dltL, lltB]
  | _ :: _, [] => by simp [zi, dltL, lltB]
  | x :: xs, y :: ys => by
    show dltL (.int x :: zi xs) (.int y :: zi ys) = _
    unfold dltL lltB
    rw [dlt_zi xs ys]
    by_cases h : x = y
    · simp [h, deq]
    · simp [h, deq, dlt]
theorem deq_zi : ∀ xs ys : List Int, deqL (zi xs) (zi ys) = decide (xs = ys)
  | [], [] => by simp [zi, deqL]
  | [], _ :: _ => by simp [zi, deqL]
  | _ :: _, [] => by simp [zi, deqL]
  | x :: xs, y :: ys => by
    show deqL (.int x :: zi xs) (.int y :: zi ys) = _
    unfold deqL
    rw [deq_zi xs ys]
    by_cases h : x = y <;> simp [h, deq]
theorem llt_irr : ∀ xs : List Int, lltB xs xs = false
  | [] => rfl
  | x :: xs => by unfold lltB; rw [if_pos rfl]; exact llt_irr xs
theorem dlt_rt (x y : Rt) : dlt (rtD x) (rtD y) = ltB x y := by
  unfold ltB
  by_cases h1 : x.l = y.l
  · by_cases h2 : x.n = y.n
    · by_cases h3 : x.r = y.r
      · simp [rtD, dlt, dltL, deq, h1, h2, h3, deq_zi, llt_irr]
      · simp [rtD, dlt, dltL, deq, h1, h2, h3, deq_zi, dlt_zi]
    · simp [rtD, dlt, dltL, deq, h1, h2]
  · simp [rtD, dlt, dltL, deq, h1]
theorem llt_tri : ∀ {xs ys : List Int}, lltB xs ys = false → lltB ys xs = false → xs = ys
  | [], [], _, _ => rfl
  | [], _ :: _, h, _ => by simp [lltB] at h
  | _ :: _, [], _, h => by simp [lltB] at h
  | x :: xs, y :: ys, h1, h2 => by
    unfold lltB at h1 h2
    by_cases h : x = y
    · subst h
      simp only [if_true] at h1 h2
      rw [llt_tri h1 h2]
    · rw [if_neg h] at h1
      rw [if_neg (Ne.symm h)] at h2
      simp at h1 h2
      omega
theorem llt_asym : ∀ {xs ys : List Int}, lltB xs ys = true → lltB ys xs = false
  | [], [], h => by simp [lltB] at h
  | [], _ :: _, _ => rfl
  | _ :: _, [], h => by simp [lltB] at h
  | x :: xs, y :: ys, h1 => by
    unfold lltB at h1 ⊢
    by_cases h : x = y
    · subst h
      simp only [if_true] at h1 ⊢
      exact llt_asym h1
    · rw [if_neg h] at h1
      rw [if_neg (Ne.symm h)]
      simp at h1 ⊢
      omega
theorem llt_trans : ∀ {xs ys zs : List Int}, lltB ys xs = false → lltB zs ys = false → lltB zs xs = false
  | _, _, [], h1, h2 => by
    rename_i xs ys
    cases ys with
    | nil => exact h1
    | cons y ys => simp [lltB] at h2
  | xs, [], z :: zs, h1, h2 => by
    cases xs with
    | nil => rfl
    | cons x xs => simp [lltB] at h1
  | [], y :: ys, z :: zs, h1, h2 => rfl
  | x :: xs, y :: ys, z :: zs, h1, h2 => by
    unfold lltB at h1 h2 ⊢
    by_cases a : y = x
    · by_cases b : z = y
      · subst a b
        simp only [if_true] at h1 h2 ⊢
        exact llt_trans h1 h2
      · subst a
        rw [if_neg b] at h2 ⊢
        exact h2
    · rw [if_neg a] at h1
      by_cases b : z = y
      · subst b
        rw [if_neg a]; exact h1
      · rw [if_neg b] at h2
        simp at h1 h2
        by_cases c : z = x
        · omega
        · rw [if_neg c]; simp; omega
/-- no worse -/
def leR (x y : Rt) : Prop := ltB y x = false
theorem le_refl (x : Rt) : leR x x := by unfold leR ltB; simp [llt_irr]
theorem le_of_lt {x y : Rt} (h : ltB x y = true) : leR x y := by
  unfold leR
  unfold ltB at h ⊢
  by_cases h1 : x.l = y.l
  · rw [if_pos h1] at h
    rw [if_pos h1.symm]
    by_cases h2 : x.n = y.n
    · rw [if_pos h2] at h
      rw [if_pos h2.symm]
      exact llt_asym h
    · rw [if_neg h2] at h
      rw [if_neg (Ne.symm h2)]
      simp at h ⊢
      omega
  · rw [if_neg h1] at h
    rw [if_neg (Ne.symm h1)]
    simp at h ⊢
    omega
theorem le_anti {x y : Rt} (h1 : leR x y) (h2 : leR y x) : x = y := by
  obtain ⟨l, n, r⟩ := x
  obtain ⟨l2, n2, r2⟩ := y
  unfold leR ltB at h1 h2
  simp only at h1 h2
  by_cases a : l = l2
  · subst a
    by_cases b : n = n2
    · subst b
      simp only [if_true] at h1 h2
      rw [llt_tri h1 h2]
    · rw [if_pos rfl, if_neg (Ne.symm b)] at h1
      rw [if_pos rfl, if_neg b] at h2
      simp at h1 h2
      omega
  · rw [if_neg (Ne.symm a)] at h1
    rw [if_neg a] at h2
    simp at h1 h2
    omega
theorem le_trans {x y z : Rt} (h1 : leR x y) (h2 : leR y z) : leR x z := by
  obtain ⟨l, n, r⟩ := x
  obtain ⟨l2, n2, r2⟩ := y
  obtain ⟨l3, n3, r3⟩ := z
  unfold leR ltB at h1 h2 ⊢
  simp only at h1 h2 ⊢
  by_cases a : l2 = l
  · by_cases b : l3 = l2
    · subst a b
      simp only [if_true] at h1 h2 ⊢
      by_cases c : n2 = n
      · by_cases d : n3 = n2
        · subst c d
          simp only [if_true] at h1 h2 ⊢
          exact llt_trans h1 h2
        · subst c
          rw [if_neg d] at h2 ⊢
          exact h2
      · rw [if_neg c] at h1
        by_cases d : n3 = n2
        · subst d
          rw [if_neg c]; exact h1
        · rw [if_neg d] at h2
          simp at h1 h2
          rw [if_neg (by omega)]
          simp; omega
    · subst a
      rw [if_neg b] at h2 ⊢
      exact h2
  · rw [if_neg a] at h1
    by_cases b : l3 = l2
    · subst b
      rw [if_neg a]; exact h1
    · rw [if_neg b] at h2
      simp at h1 h2
      rw [if_neg (by omega)]
      simp; omega
theorem llt_snoc : ∀ {xs ys : List Int} {v : Int}, xs.length = ys.length → lltB xs ys = false → lltB (xs ++ [v]) (ys ++ [v]) = false
  | [], [], v, _, _ => by simp [lltB]
  | [], _ :: _, _, h, _ => by simp at h
  | _ :: _, [], _, h, _ => by simp at h
  | x :: xs, y :: ys, v, hl, h => by
    show lltB (x :: (xs ++ [v])) (y :: (ys ++ [v])) = false
    unfold lltB at h ⊢
    by_cases a : x = y
    · rw [if_pos a] at h ⊢
      exact llt_snoc (by simpa using hl) h
    · rw [if_neg a] at h ⊢
      exact h
/-- routes along the ways -/
inductive Pth (ws : List Wy) (b : Int) : Int → Rt → Prop
  | here : Pth ws b b ⟨0, 1, [b]⟩
  | step {w : Wy} {x : Rt} : Pth ws b w.a x → w ∈ ws → Pth ws b w.b (rowOf x w)
theorem Pth.num {ws : List Wy} {b v : Int} {x : Rt} (h : Pth ws b v x) : x.n = x.r.length := by
  induction h with
  | here => rfl
  | step _ _ ih => simp [rowOf, ih]
theorem Pth.rch {ws : List Wy} {b v : Int} {x : Rt} (h : Pth ws b v x) : Rch ws b v := by
  induction h with
  | here => exact .here
  | step _ hm ih => exact .step ih hm
theorem Pth.more {ws ws2 : List Wy} (hs : ∀ w ∈ ws, w ∈ ws2) {b v : Int} {x : Rt} (h : Pth ws b v x) : Pth ws2 b v x := by
  induction h with
  | here => exact .here
  | step _ hm ih => exact .step ih (hs _ hm)
theorem row_mono {x y : Rt} {w : Wy} (hx : x.n = x.r.length) (hy : y.n = y.r.length) (h : leR x y) : leR (rowOf x w) (rowOf y w) := by
  unfold leR ltB at h ⊢
  unfold rowOf
  simp only
  by_cases a : y.l = x.l
  · rw [if_pos a] at h
    rw [if_pos (by omega)]
    by_cases b : y.n = x.n
    · rw [if_pos b] at h
      rw [if_pos (by omega)]
      exact llt_snoc (by omega) h
    · rw [if_neg b] at h
      rw [if_neg (by omega)]
      simp at h ⊢
      omega
  · rw [if_neg a] at h
    rw [if_neg (by omega)]
    simp at h ⊢
    omega
theorem row_grow {x : Rt} {w : Wy} (h : 0 ≤ w.l) : leR x (rowOf x w) := by
  refine le_of_lt ?_
  unfold ltB rowOf
  simp only
  by_cases a : x.l = x.l + w.l
  · rw [if_pos a, if_neg (by omega)]
    simp; omega
  · rw [if_neg a]
    simp; omega
structure Opt (ws : List Wy) (b v : Int) (x : Rt) : Prop where
  pth : Pth ws b v x
  least : ∀ y, Pth ws b v y → leR x y
theorem Opt.uniq {ws : List Wy} {b v : Int} {x y : Rt} (h1 : Opt ws b v x) (h2 : Opt ws b v y) : x = y := le_anti (h1.least y h2.pth) (h2.least x h1.pth)
theorem lsR_le (x : Rt) (xs : List Rt) : ∀ y ∈ x :: xs, leR (lsR x xs) y := by
  unfold lsR
  induction xs generalizing x with
  | nil =>
    intro y hy
    have : y = x := by simpa using hy
    rw [this]
    exact le_refl _
  | cons z r ih =>
    intro y hy
    simp only [List.foldl_cons, dlt_rt]
    simp only [dlt_rt] at ih
    by_cases h : ltB z x = true
    · rw [if_pos h]
      rcases List.mem_cons.mp hy with e | hy
      · rw [e]
        exact le_trans (ih z z List.mem_cons_self) (le_of_lt h)
      · exact ih z y hy
    · rw [if_neg h]
      rcases List.mem_cons.mp hy with e | hy
      · rw [e]; exact ih x x List.mem_cons_self
      · rcases List.mem_cons.mp hy with e | hy
        · rw [e]
          refine le_trans (ih x x List.mem_cons_self) ?_
          unfold leR
          simpa using h
        · exact ih x y (List.mem_cons_of_mem _ hy)
end Mm
namespace Mm
theorem pt_self {kv : Kv} {g : Int} {x : Rt} : (g, x) ∈ ptI kv g x := by
  unfold ptI
  split
  · rename_i h
    obtain ⟨p, hp, e⟩ := List.mem_map.mp (any_key.mp h)
    exact List.mem_map.mpr ⟨p, hp, by rw [if_pos e, e]⟩
  · simp
theorem pt_other {kv : Kv} {g : Int} {x : Rt} {p : Int × Rt} (h : p ∈ kv) (hn : p.1 ≠ g) : p ∈ ptI kv g x := by
  unfold ptI
  split
  · exact List.mem_map.mpr ⟨p, h, by rw [if_neg hn]⟩
  · exact List.mem_append_left _ h
theorem put_le {lev : Kv} {best : Rt} {w : Wy} (nd : (lev.map (·.1)).Nodup) : ∃ m, (w.b, m) ∈ putRow lev best w ∧ leR m (rowOf best w) ∧ ∀ y, (w.b, y) ∈ lev → leR m y := by
  refine ⟨_, pt_self, ?_, fun y hy => ?_⟩
  · cases lk lev w.b with
    | none => simp only [Option.getD_none, ite_self]; exact le_refl _
    | some x =>
      simp only [Option.getD_some]
      rw [dlt_rt]
      split
      · exact le_refl _
      · rename_i h
        unfold leR
        simpa using h
  · rw [lk_nd nd hy]
    simp only [Option.getD_some]
    rw [dlt_rt]
    split
    · rename_i h
      exact le_of_lt h
    · exact le_refl _
theorem relax_le {found lev : Kv} {here : Int} {best : Rt} {w : Wy} (nd : (lev.map (·.1)).Nodup) {p : Int × Rt} (h : p ∈ lev) : ∃ m, (p.1, m) ∈ relax found lev here best w ∧ leR m p.2 := by
  unfold relax
  split
  · by_cases e : p.1 = w.b
    · obtain ⟨m, h1, h2, h3⟩ := put_le (best := best) (w := w) nd
      exact ⟨m, by rw [e]; exact h1, h3 p.2 (by rw [← e]; exact h)⟩
    · exact ⟨p.2, pt_other h e, le_refl _⟩
  · exact ⟨p.2, h, le_refl _⟩
theorem relax_put {found lev : Kv} {here : Int} {best : Rt} {w : Wy} (nd : (lev.map (·.1)).Nodup) (c : w.a = here ∧ w.b ∉ found.map (·.1)) : ∃ m, (w.b, m) ∈ relax found lev here best w ∧ leR m (rowOf best w) := by
  unfold relax
  rw [if_pos c]
  obtain ⟨m, h1, h2, h3⟩ := put_le (best := best) (w := w) nd
  exact ⟨m, h1, h2⟩
theorem relax_pth {ws : List Wy} {b : Int} {found lev : Kv} {here : Int} {best : Rt} {w : Wy} (hp : ∀ p ∈ lev, Pth ws b p.1 p.2) (hb : Pth ws b here best) (hw : w ∈ ws) : ∀ p ∈ relax found lev here best w, Pth ws b p.1 p.2 := by
  intro p h
  unfold relax at h
  split at h
  · rename_i c
    have er : Pth ws b w.b (rowOf best w) := .step (by rw [c.1]; exact hb) hw
    rcases pt_mem h with e | e
    · rw [e]
      cases e2 : lk lev w.b with
      | none => simp only [Option.getD_none, ite_self]; exact er
      | some x =>
        simp only [Option.getD_some]
        split
        · exact er
        · exact hp _ (lk_mem e2)
    · exact hp p e.1
  · exact hp p h
/-- the best is told of all that are found; what waits is good enough -/
structure Bst (ws : List Wy) (b : Int) (found lev : Kv) : Prop where
  opt : ∀ p ∈ found, Opt ws b p.1 p.2
  pth : ∀ p ∈ lev, Pth ws b p.1 p.2
  nxt : ∀ p ∈ found, ∀ w ∈ ws, w.a = p.1 → w.b ∉ found.map (·.1) → ∃ m, (w.b, m) ∈ lev ∧ leR m (rowOf p.2 w)
  beg : b ∉ found.map (·.1) → ∃ m, (b, m) ∈ lev ∧ leR m ⟨0, 1, [b]⟩
  len : ∀ p ∈ found, p.2.r.length ≤ 11
theorem Bst.cut {ws : List Wy} {b : Int} {found lev : Kv} (hw : WaysOk ws) (B : Bst ws b found lev) {v : Int} {y : Rt} (h : Pth ws b v y) : v ∉ found.map (·.1) → ∃ p ∈ lev, leR p.2 y := by
  induction h with
  | here =>
    intro hn
    obtain ⟨m, h1, h2⟩ := B.beg hn
    exact ⟨_, h1, h2⟩
  | @step w x hx hm ih =>
    intro hn
    by_cases hu : w.a ∈ found.map (·.1)
    · obtain ⟨⟨u, x0⟩, hp, e⟩ := List.mem_map.mp hu
      simp only at e
      subst e
      have O := B.opt _ hp
      obtain ⟨m, h1, h2⟩ := B.nxt _ hp w hm rfl hn
      exact ⟨_, h1, le_trans h2 (row_mono O.pth.num hx.num (O.least _ hx))⟩
    · obtain ⟨p, h1, h2⟩ := ih hu
      exact ⟨p, h1, le_trans h2 (row_grow (hw.ok w hm).l0)⟩
theorem Bst.first {ws : List Wy} {b : Int} {found lev : Kv} (hw : WaysOk ws) (B : Bst ws b found lev) {here : Int} {best : Rt} (hq : (here, best) ∈ lev) (hmin : ∀ p ∈ lev, leR best p.2) (hn : here ∉ found.map (·.1)) : Opt ws b here best :=
  ⟨B.pth _ hq, fun y hy => by
    obtain ⟨p, h1, h2⟩ := B.cut hw hy hn
    exact le_trans (hmin p h1) h2⟩
/-- the best routes -/
theorem routesOpt_T {ws : List Wy} {b : Int} {hs : Hs} (hw : WaysOk ws) (b0 : 0 ≤ b) (b1 : b < 10) : ∃ kv : Kv, c_routes_from [.l (ws.map wyD), .int b] hs = .ok (.dk ((fk kv).map (·.1)) ((fk kv).map (·.2))) hs ∧ (kv.map (·.1)).Nodup ∧ (∀ v, v ∈ kv.map (·.1) ↔ Rch ws b v) ∧ ∀ p ∈ kv, Opt ws b p.1 p.2 ∧ p.2.r.length ≤ 11 := by
  suffices H : (c_routes_from [.l (ws.map wyD), .int b] hs).T fun d h' => h' = hs ∧ ∃ kv : Kv, d = .dk ((fk kv).map (·.1)) ((fk kv).map (·.2)) ∧ (kv.map (·.1)).Nodup ∧ (∀ v, v ∈ kv.map (·.1) ↔ Rch ws b v) ∧ ∀ p ∈ kv, Opt ws b p.1 p.2 ∧ p.2.r.length ≤ 11 by
    obtain ⟨d, h', e, rfl, kv, rfl, h1, h2⟩ := H.eq
    exact ⟨kv, e, h1, h2⟩
  refine T_call0 rfl ?_
  have z1 : ∀ d : D, ([d] : List D).length ≤ 100000 := fun _ => by simp
  have z3 : ∀ d e f : D, ([d, e, f] : List D).length ≤ 100000 := fun _ _ _ => by simp
  have es : D.t [.int 0, .int 1, .t [.int b]] = rtD ⟨0, 1, [b]⟩ := rfl
  simp only [m_routes_from, start,al',am',an',ao',List.replicate,aq',ar', eDk, vTup, z1, z3, es, vDisp1, two2, keyOf, sSeq,ST_seq,sAsg,sPar,sExpr,sIf,sRet,sRetN,sNx,ST_bindS,eMeth,eArgs,aCons,aNil,eBin,eUn,eC,eVar,eAnd,eOr,eNot,eIf,tVal,tAnd,tOr,tNot,tYes,gName,gTup,gCons,gNil,gSub,aa',ab',T_bind,T_ok,ba',bb',bc',T_ite,ST_nx,ST_ret,ac',ad',ae',af',ag',if_true,if_false,ah']
  unfold sWhile
  refine T_while (fun n fs h' => ∃ (c4 c5 c6 c7 c8 c9 c10 : Option D) (found lev : Kv), n + found.length = 10 ∧ fs = [some (.l (ws.map wyD)), some (.int b), some (.loc hs.length), some (.loc (hs.length + 1)), c4, c5, c6, c7, c8, c9, c10] ∧ h' = hs ++ [.dk (fk found), .dk (fk lev)] ∧
    Lev ws b found lev ∧ Bst ws b found lev ∧ (b ∈ found.map (·.1) ∨ b ∈ lev.map (·.1)) ∧ ∀ w ∈ ws, w.a ∈ found.map (·.1) → w.b ∈ found.map (·.1) ∨ w.b ∈ lev.map (·.1)) _ ?_ 10 100 (by decide)
    ⟨_, _, _, _, _, _, _, [], [(b, ⟨0, 1, [b]⟩)], rfl, by simp; exact ⟨rfl, rfl, rfl, rfl, rfl, rfl, rfl⟩, by simp [fk], ⟨by simp, by simp, by simp, by simp; omega, by simp; exact .here, by simp; exact ⟨rfl, by simp⟩⟩, ⟨by simp, by simp; exact .here, by simp, fun _ => ⟨_, List.mem_singleton.mpr rfl, le_refl _⟩, by simp⟩, by simp, by simp⟩
  rintro n fs h' ⟨c4, c5, c6, c7, c8, c9, c10, found, lev, hn, rfl, rfl, L, B, hb, hcl⟩
  have g0 : (hs ++ [O.dk (fk found), O.dk (fk lev)])[hs.length]? = some (.dk (fk found)) := by simp
  have g1 : (hs ++ [O.dk (fk found), O.dk (fk lev)])[hs.length + 1]? = some (.dk (fk lev)) := by simp
  have ene : vNe (.loc (hs.length + 1)) (.dk [] []) (hs ++ [O.dk (fk found), O.dk (fk lev)]) = .ok (.bl (!(fk lev).isEmpty)) (hs ++ [O.dk (fk found), O.dk (fk lev)]) := by
    unfold vNe eqB emD
    simp only [res, g1, dictOf, List.zip_nil_left]
    rw [show okd 60 (.loc (hs.length + 1)) = false from by unfold okd; rfl]
    rfl
  simp only [eDf, ene, sSeq,ST_seq,sAsg,sPar,sExpr,sIf,sRet,sRetN,sNx,ST_bindS,eMeth,eArgs,aCons,aNil,eBin,eUn,eC,eVar,eAnd,eOr,eNot,eIf,tVal,tAnd,tOr,tNot,tYes,gName,gTup,gCons,gNil,gSub,aa',ab',T_bind,T_ok,ba',bb',bc',T_ite,ST_nx,ST_ret,ac',ad',ae',af',ag',if_true,if_false,ah']
  cases lev with
  | nil =>
    simp only [fk, List.map_nil, List.isEmpty_nil, sSeq,ST_seq,sAsg,sPar,sExpr,sIf,sRet,sRetN,sNx,ST_bindS,eMeth,eArgs,aCons,aNil,eBin,eUn,eC,eVar,eAnd,eOr,eNot,eIf,tVal,tAnd,tOr,tNot,tYes,gName,gTup,gCons,gNil,gSub,aa',ab',T_bind,T_ok,ba',bb',bc',T_ite,ST_nx,ST_ret,ac',ad',ae',af',ag',if_true,if_false,ah']
    have ef : frz (.loc hs.length) (hs ++ [O.dk (fk found), O.dk []]) = .ok (.dk ((fk found).map (·.1)) ((fk found).map (·.2))) (hs ++ [O.dead, O.dk []]) := by
      unfold frz
      simp
    simp only [eFrz, sSeq,ST_seq,sAsg,sPar,sExpr,sIf,sRet,sRetN,sNx,ST_bindS,eMeth,eArgs,aCons,aNil,eBin,eUn,eC,eVar,eAnd,eOr,eNot,eIf,tVal,tAnd,tOr,tNot,tYes,gName,gTup,gCons,gNil,gSub,aa',ab',T_bind,T_ok,ba',bb',bc',T_ite,ST_nx,ST_ret,ac',ad',ae',af',ag',if_true,if_false,ah']
    rw [show (List.map (fun p => ((Sum.inl p.1 : Key), rtD p.2)) found) = fk found from rfl, ef]
    refine ⟨_, rfl, ?_, trivial, found, rfl, L.fnd, fun v => ⟨fun hv => L.rc v (.inl hv), fun hv => ?_⟩, fun p hp => ⟨B.opt p hp, B.len p hp⟩⟩
    · unfold closed
      have : ∀ kv : Kv, closedL hs.length ((fk kv).map (·.2)) = true := fun kv => by
        induction kv with
        | nil => rfl
        | cons p r ih =>
          show closedL hs.length (rtD p.2 :: (fk r).map (·.2)) = true
          unfold closedL
          rw [ih]
          rw [closed_rt]; rfl
      exact this found
    · induction hv with
      | here => simpa using hb
      | step hr hm ih => simpa using hcl _ hm ih
  | cons p r =>
    have hp := lsR_mem p.2 (r.map (·.2))
    obtain ⟨⟨here, best⟩, hq, eb⟩ : ∃ q ∈ p :: r, q.2 = lsR p.2 (r.map (·.2)) := by
      have : lsR p.2 (r.map (·.2)) ∈ (p :: r).map (·.2) := by simpa using hp
      obtain ⟨q, h1, h2⟩ := List.mem_map.mp this
      exact ⟨q, h1, h2⟩
    simp only at eb
    have hl10 := L.both (by simp)
    obtain ⟨n', rfl⟩ : ∃ n', n = n' + 1 := ⟨n - 1, by omega⟩
    have E := L.ent _ hq
    have hne : (fk (p :: r)).isEmpty = false := rfl
    simp only [hne, sSeq,ST_seq,sAsg,sPar,sExpr,sIf,sRet,sRetN,sNx,ST_bindS,eMeth,eArgs,aCons,aNil,eBin,eUn,eC,eVar,eAnd,eOr,eNot,eIf,tVal,tAnd,tOr,tNot,tYes,gName,gTup,gCons,gNil,gSub,aa',ab',T_bind,T_ok,ba',bb',bc',T_ite,ST_nx,ST_ret,ac',ad',ae',af',ag',if_true,if_false,ah']
    refine ⟨n', rfl, ?_⟩
    have em := minV_rt (n := hs.length + 1) (p := p) (r := r) g1
    rw [← eb] at em
    have i2 : ∀ h0, vIx (rtD best) (.int 2) h0 = .ok (.t (zi best.r)) h0 := fun _ => rfl
    have elast : ∀ h0, vIx (.t (zi best.r)) (.int (-1)) h0 = .ok (.int here) h0 := fun h0 => by
      have h1 := E.last
      have hne : best.r ≠ [] := fun z => by simp only [z] at h1; cases h1
      have hpos : 0 < best.r.length := List.length_pos_iff.mpr hne
      have e1 : ixN (zi best.r).length (-1) = some (best.r.length - 1) := by
        unfold ixN
        rw [if_neg (by decide), if_pos (by simp; omega)]
        simp
        omega
      unfold vIx
      simp only [seqOf, e1, Option.bind_some]
      have e2 : (zi best.r)[best.r.length - 1]? = some (.int here) := by
        rw [List.getElem?_map, ← List.getLast?_eq_getElem?]
        simp only at h1
        rw [h1]; rfl
      rw [e2]
    have eD : isDct (.loc (hs.length + 1)) (hs ++ [.dk (fk found), .dk (fk (p :: r))]) = true := by
      unfold isDct
      simp only [g1]
    have ep : mPopK (.loc (hs.length + 1)) [.int here] (hs ++ [.dk (fk found), .dk (fk (p :: r))]) = .ok (rtD best) (hs ++ [.dk (fk found), .dk (fk ((p :: r).filter fun p => decide (p.1 ≠ here)))]) := by
      unfold mPopK
      simp only [one1, Option.bind_some, keyOf, g1, fk_get, lk_nd L.lnd hq, Option.map_some, fk_drop]
      simp
    have hnf : here ∉ found.map (·.1) := L.dis _ (List.mem_map.mpr ⟨_, hq, rfl⟩)
    have ept : ptI found here best = found ++ [(here, best)] := by
      unfold ptI
      rw [if_neg (fun z => hnf (any_key.mp z))]
    have es : setIx (.loc hs.length) (.int here) (rtD best) (hs ++ [.dk (fk found), .dk (fk ((p :: r).filter fun p => decide (p.1 ≠ here)))]) = .ok () (hs ++ [.dk (fk (found ++ [(here, best)])), .dk (fk ((p :: r).filter fun p => decide (p.1 ≠ here)))]) := by
      have : (fk found).length < 100000 := by unfold fk; simp; omega
      unfold setIx
      simp only [get_app, keyOf, if_pos this, fk_put, ept]
      simp
    have eneg : vNeg (.int 1) (hs ++ [O.dk (fk found), O.dk (fk (p :: r))]) = .ok (.int (-1)) (hs ++ [O.dk (fk found), O.dk (fk (p :: r))]) := rfl
    simp only [body_routes_from_1, em, i2, eneg, elast, eD, ep, es, sFor, iSeq, onlyL, sSeq,ST_seq,sAsg,sPar,sExpr,sIf,sRet,sRetN,sNx,ST_bindS,eMeth,eArgs,aCons,aNil,eBin,eUn,eC,eVar,eAnd,eOr,eNot,eIf,tVal,tAnd,tOr,tNot,tYes,gName,gTup,gCons,gNil,gSub,aa',ab',T_bind,T_ok,ba',bb',bc',T_ite,ST_nx,ST_ret,ac',ad',ae',af',ag',if_true,if_false,ah']
    have keysF : ∀ v, v ∈ (found ++ [(here, best)]).map (·.1) ↔ v ∈ found.map (·.1) ∨ v = here := fun v => by simp
    have keysL : ∀ v, v ∈ ((p :: r).filter fun p => decide (p.1 ≠ here)).map (·.1) ↔ v ∈ (p :: r).map (·.1) ∧ v ≠ here := fun v => by
      constructor
      · intro hv
        obtain ⟨q, h1, rfl⟩ := List.mem_map.mp hv
        obtain ⟨h2, h3⟩ := List.mem_filter.mp h1
        exact ⟨List.mem_map.mpr ⟨q, h2, rfl⟩, of_decide_eq_true h3⟩
      · rintro ⟨hv, hn⟩
        obtain ⟨q, h1, rfl⟩ := List.mem_map.mp hv
        exact List.mem_map.mpr ⟨q, List.mem_filter.mpr ⟨h1, decide_eq_true hn⟩, rfl⟩
    have hhere : here ∈ (p :: r).map (·.1) := List.mem_map.mpr ⟨_, hq, rfl⟩
    have L2 : Lev ws b (found ++ [(here, best)]) ((p :: r).filter fun p => decide (p.1 ≠ here)) := by
      refine ⟨?_, ?_, fun v hv => ?_, fun v hv => ?_, fun v hv => ?_, fun q hq => ?_⟩
      · rw [List.map_append]
        exact List.nodup_append.mpr ⟨L.fnd, by simp, fun x hx y hy z => hnf (by
          have : y = here := by simpa using hy
          rw [← this, ← z]; exact hx)⟩
      · exact L.lnd.sublist (List.Sublist.map _ List.filter_sublist)
      · intro hv2
        obtain ⟨h1, h2⟩ := (keysL v).mp hv
        rcases (keysF v).mp hv2 with z | z
        · exact L.dis v h1 z
        · exact h2 z
      · rcases hv with z | z
        · rcases (keysF v).mp z with z | z
          · exact L.lo v (.inl z)
          · rw [z]; exact L.lo _ (.inr hhere)
        · exact L.lo v (.inr ((keysL v).mp z).1)
      · rcases hv with z | z
        · rcases (keysF v).mp z with z | z
          · exact L.rc v (.inl z)
          · rw [z]; exact L.rc _ (.inr hhere)
        · exact L.rc v (.inr ((keysL v).mp z).1)
      · have := L.ent q (List.mem_filter.mp hq).1
        exact ⟨this.last, by have := this.len; simp; omega⟩
    have hmin : ∀ q ∈ p :: r, leR best q.2 := fun q hq2 => by
      rw [eb]
      refine lsR_le _ _ _ ?_
      have : q.2 ∈ (p :: r).map (·.2) := List.mem_map.mpr ⟨q, hq2, rfl⟩
      simpa using this
    have Ob := B.first hw hq hmin hnf
    have hpth2 : ∀ q ∈ (p :: r).filter (fun p => decide (p.1 ≠ here)), Pth ws b q.1 q.2 := fun q hq2 => B.pth q (List.mem_filter.mp hq2).1
    refine T_for (fun done fs h' => ∃ (c6 c7 c8 c9 c10 : Option D) (lev : Kv) (dw : List Wy), done = dw.map wyD ∧ fs = [some (.l (ws.map wyD)), some (.int b), some (.loc hs.length), some (.loc (hs.length + 1)), some (rtD best), some (.int here), c6, c7, c8, c9, c10] ∧ h' = hs ++ [.dk (fk (found ++ [(here, best)])), .dk (fk lev)] ∧
      Lev ws b (found ++ [(here, best)]) lev ∧ (∀ v, v ∈ ((p :: r).filter fun p => decide (p.1 ≠ here)).map (·.1) → v ∈ lev.map (·.1)) ∧ (∀ w ∈ dw, w.a = here → w.b ∈ (found ++ [(here, best)]).map (·.1) ∨ w.b ∈ lev.map (·.1)) ∧
      (∀ q ∈ lev, Pth ws b q.1 q.2) ∧ (∀ q ∈ (p :: r).filter (fun p => decide (p.1 ≠ here)), ∃ m, (q.1, m) ∈ lev ∧ leR m q.2) ∧ ∀ w ∈ dw, w.a = here → w.b ∉ (found ++ [(here, best)]).map (·.1) → ∃ m, (w.b, m) ∈ lev ∧ leR m (rowOf best w)) _ ?_ ?_ ?_
      ⟨_, _, _, _, _, _, [], rfl, rfl, rfl, L2, fun _ h => h, by simp, hpth2, fun q hq => ⟨q.2, hq, le_refl _⟩, by simp⟩
    · exact fun _ _ _ _ => trivial
    · rintro done x rest fs h' e ⟨c6, c7, c8, c9, c10, lev, dw, rfl, rfl, rfl, L3, hsub, hdone, hpt, hold, hnew⟩
      have hx : x ∈ ws.map wyD := by rw [e]; simp
      obtain ⟨w, hwm, rfl⟩ := List.mem_map.mp hx
      simp only [wyD, sSeq,ST_seq,sAsg,sPar,sExpr,sIf,sRet,sRetN,sNx,ST_bindS,eMeth,eArgs,aCons,aNil,eBin,eUn,eC,eVar,eAnd,eOr,eNot,eIf,tVal,tAnd,tOr,tNot,tYes,gName,gTup,gCons,gNil,gSub,aa',ab',T_bind,T_ok,ba',bb',bc',T_ite,ST_nx,ST_ret,ac',ad',ae',af',ag',if_true,if_false,ah']
      have hlen : best.r.length + 1 ≤ (found ++ [(here, best)]).length + 1 := by have := E.len; simp at this ⊢; omega
      refine relax_T (by have := E.len; simp at this; omega) (by have := L3.llen; omega) fun c10 => ?_
      refine ⟨_, _, _, _, _, _, dw ++ [w], by simp [wyD], rfl, rfl, L3.relax hwm (hw.ok w hwm) (by simp) hlen, fun v hv => relax_keys.mpr (.inl (hsub v hv)), fun y hy ha => ?_, relax_pth hpt Ob.pth hwm, fun q hq => ?_, fun y hy ha hn => ?_⟩
      rotate_left 1
      · obtain ⟨m, h1, h2⟩ := hold q hq
        obtain ⟨m2, h3, h4⟩ := relax_le (found := found ++ [(here, best)]) (here := here) (best := best) (w := w) L3.lnd h1
        exact ⟨m2, h3, le_trans h4 h2⟩
      · rcases List.mem_append.mp hy with z | z
        · obtain ⟨m, h1, h2⟩ := hnew y z ha hn
          obtain ⟨m2, h3, h4⟩ := relax_le (found := found ++ [(here, best)]) (here := here) (best := best) (w := w) L3.lnd h1
          exact ⟨m2, h3, le_trans h4 h2⟩
        · obtain rfl : y = w := by simpa using z
          exact relax_put L3.lnd ⟨ha, hn⟩
      rcases List.mem_append.mp hy with z | z
      · rcases hdone y z ha with q | q
        · exact .inl q
        · exact .inr (relax_keys.mpr (.inl q))
      · obtain rfl : y = w := by simpa using z
        by_cases hin : y.b ∈ (found ++ [(here, best)]).map (·.1)
        · exact .inl hin
        · exact .inr (relax_keys.mpr (.inr ⟨ha, hin, rfl⟩))
    · rintro fs h' ⟨c6, c7, c8, c9, c10, lev, dw, e, rfl, rfl, L3, hsub, hdone, hpt, hold, hnew⟩
      have hdw : ∀ w ∈ ws, w ∈ dw := fun w hwm => by
        have h1 : wyD w ∈ dw.map wyD := by rw [← e]; exact List.mem_map.mpr ⟨w, hwm, rfl⟩
        obtain ⟨y, hy, ey⟩ := List.mem_map.mp h1
        have : y = w := by
          obtain ⟨a, b, l, r⟩ := y
          obtain ⟨a2, b2, l2, r2⟩ := w
          simp [wyD] at ey
          obtain ⟨rfl, rfl, rfl, rfl⟩ := ey
          rfl
        rw [← this]; exact hy
      refine ⟨_, _, _, _, _, _, _, found ++ [(here, best)], lev, by simp; omega, rfl, rfl, L3, ⟨fun q hq2 => ?_, hpt, fun q hq2 w hwm ha hn => ?_, fun hn => ?_, fun q hq2 => ?_⟩, ?_, fun w hwm ha => ?_⟩
      · rcases List.mem_append.mp hq2 with z | z
        · exact B.opt q z
        · obtain rfl : q = (here, best) := by simpa using z
          exact Ob
      · rcases List.mem_append.mp hq2 with z | z
        · obtain ⟨m, h1, h2⟩ := B.nxt q z w hwm ha fun h => hn ((keysF _).mpr (.inl h))
          have hne2 : w.b ≠ here := fun h => hn ((keysF _).mpr (.inr h))
          obtain ⟨m2, h3, h4⟩ := hold (w.b, m) (List.mem_filter.mpr ⟨h1, decide_eq_true hne2⟩)
          exact ⟨m2, h3, le_trans h4 h2⟩
        · obtain rfl : q = (here, best) := by simpa using z
          exact hnew w (hdw w hwm) ha hn
      · obtain ⟨m, h1, h2⟩ := B.beg fun h => hn ((keysF _).mpr (.inl h))
        have hne2 : b ≠ here := fun h => hn ((keysF _).mpr (.inr h))
        obtain ⟨m2, h3, h4⟩ := hold (b, m) (List.mem_filter.mpr ⟨h1, decide_eq_true hne2⟩)
        exact ⟨m2, h3, le_trans h4 h2⟩
      · rcases List.mem_append.mp hq2 with z | z
        · exact B.len q z
        · obtain rfl : q = (here, best) := by simpa using z
          have := E.len
          simp at this ⊢
          omega
      · rcases hb with z | z
        · exact .inl ((keysF b).mpr (.inl z))
        · by_cases hbh : b = here
          · exact .inl ((keysF b).mpr (.inr hbh))
          · exact .inr (hsub b ((keysL b).mpr ⟨z, hbh⟩))
      · rcases (keysF w.a).mp ha with z | z
        · rcases hcl w hwm z with q | q
          · exact .inl ((keysF _).mpr (.inl q))
          · by_cases hbh : w.b = here
            · exact .inl ((keysF _).mpr (.inr hbh))
            · exact .inr (hsub _ ((keysL _).mpr ⟨q, hbh⟩))
        · have : w ∈ dw := by
            have h1 : wyD w ∈ dw.map wyD := by rw [← e]; exact List.mem_map.mpr ⟨w, hwm, rfl⟩
            obtain ⟨y, hy, ey⟩ := List.mem_map.mp h1
            have : y = w := by
              obtain ⟨a, b, l, r⟩ := y
              obtain ⟨a2, b2, l2, r2⟩ := w
              simp [wyD] at ey
              obtain ⟨rfl, rfl, rfl, rfl⟩ := ey
              rfl
            rw [← this]; exact hy
          exact hdone w this z
end Mm
namespace Mm
theorem zip_fk : ∀ kv : Kv, ((fk kv).map (·.1)).zip ((fk kv).map (·.2)) = fk kv
  | [] => rfl
  | p :: r => by
    show (Sum.inl p.1, rtD p.2) :: (((fk r).map (·.1)).zip ((fk r).map (·.2))) = _
    rw [zip_fk r]; rfl
theorem rch_lo {ws : List Wy} {b v : Int} (hw : WaysOk ws) (b0 : 0 ≤ b) (b1 : b < 10) (h : Rch ws b v) : 0 ≤ v ∧ v < 10 := by
  cases h with
  | here => exact ⟨b0, b1⟩
  | step h1 h2 => exact ⟨(hw.ok _ h2).b0, (hw.ok _ h2).b1⟩
theorem needKind_eq {i : Int} {hs : Hs} (h0 : 0 ≤ i) (h1 : i < 10) : c_need_kind [.int i] hs = .ok .non hs := by
  refine T_callP rfl rfl fun N V h1' h2 h3 h4 => ?_
  simp only [m_need_kind, start,al',am',an',ao',List.replicate,aq',ar', kind_ok h0 h1, sSeq,ST_seq,sAsg,sPar,sExpr,sIf,sRet,sRetN,sNx,ST_bindS,eMeth,eArgs,aCons,aNil,eBin,eUn,eC,eVar,eAnd,eOr,eNot,eIf,tVal,tAnd,tOr,tNot,tYes,gName,gTup,gCons,gNil,gSub,aa',ab',T_bind,T_ok,ba',bb',bc',T_ite,ST_nx,ST_ret,ac',ad',ae',af',ag',if_true,if_false,ah']
  exact h3 rfl _
def bwD : Option Rt → D
  | none => .non
  | some x => .t [.int x.l, .l (zi x.r)]
structure Bw (ws : List Wy) (b g : Int) (o : Option Rt) : Prop where
  no : o = none → ¬ Rch ws b g
  yes : ∀ x, o = some x → Opt ws b g x
  len : ∀ x, o = some x → x.r.length ≤ 11
theorem closed_bw (n : Nat) (o : Option Rt) : closed n (bwD o) = true := by
  cases o with
  | none => rfl
  | some x => simp [bwD, closed, closedL, closed_zi]
theorem bestWay_T {ws : List Wy} {b g : Int} {hs : Hs} (hw : WaysOk ws) (b0 : 0 ≤ b) (b1 : b < 10) (g0 : 0 ≤ g) (g1 : g < 10) : ∃ o : Option Rt, c_best_way [.l (ws.map wyD), .int b, .int g] hs = .ok (bwD o) hs ∧ Bw ws b g o := by
  obtain ⟨kv, er, nd, hv, ho⟩ := routesOpt_T (hs := hs) hw b0 b1
  refine ⟨lk kv g, ?_, ⟨fun h hr => lk_none.mp h ((hv g).mpr hr), fun x h => (ho _ (lk_mem h)).1, fun x h => (ho _ (lk_mem h)).2⟩⟩
  refine T_callP rfl (closed_bw _ _) fun N V h1 h2 h3 h4 => ?_
  have eD : isDct (.dk ((fk kv).map (·.1)) ((fk kv).map (·.2))) hs = true := rfl
  have eG : mGet2 (.dk ((fk kv).map (·.1)) ((fk kv).map (·.2))) [.int g, .non] hs = .ok (((lk kv g).map rtD).getD .non) hs := by
    unfold mGet2
    simp only [two2, dlook, keyOf, Option.map_some, zip_fk, fk_get]
  simp only [m_best_way, start,al',am',an',ao',List.replicate,aq',ar', needWays_eq hw, needKind_eq b0 b1, needKind_eq g0 g1, er, eD, eG, sSeq,ST_seq,sAsg,sPar,sExpr,sIf,sRet,sRetN,sNx,ST_bindS,eMeth,eArgs,aCons,aNil,eBin,eUn,eC,eVar,eAnd,eOr,eNot,eIf,tVal,tAnd,tOr,tNot,tYes,gName,gTup,gCons,gNil,gSub,aa',ab',T_bind,T_ok,ba',bb',bc',T_ite,ST_nx,ST_ret,ac',ad',ae',af',ag',if_true,if_false,ah']
  cases e : lk kv g with
  | none =>
    rw [e] at h1
    have e1 : onN vIsN D.non .non hs = .ok (.bl true) hs := rfl
    simp only [Option.map_none, Option.getD_none, e1, sSeq,ST_seq,sAsg,sPar,sExpr,sIf,sRet,sRetN,sNx,ST_bindS,eMeth,eArgs,aCons,aNil,eBin,eUn,eC,eVar,eAnd,eOr,eNot,eIf,tVal,tAnd,tOr,tNot,tYes,gName,gTup,gCons,gNil,gSub,aa',ab',T_bind,T_ok,ba',bb',bc',T_ite,ST_nx,ST_ret,ac',ad',ae',af',ag',if_true,if_false,ah']
    exact h1
  | some x =>
    rw [e] at h1
    have e1 : onN vIsN (rtD x) .non hs = .ok (.bl false) hs := rfl
    have i0 : vIx (rtD x) (.int 0) hs = .ok (.int x.l) hs := rfl
    have i2 : vIx (rtD x) (.int 2) hs = .ok (.t (zi x.r)) hs := rfl
    have el : vList [.t (zi x.r)] hs = .ok (.l (zi x.r)) hs := rfl
    have z2 : ([D.int x.l, D.l (zi x.r)]).length ≤ 100000 := by simp
    simp only [Option.map_some, Option.getD_some, e1, i0, i2, el, vTup, if_pos z2, sSeq,ST_seq,sAsg,sPar,sExpr,sIf,sRet,sRetN,sNx,ST_bindS,eMeth,eArgs,aCons,aNil,eBin,eUn,eC,eVar,eAnd,eOr,eNot,eIf,tVal,tAnd,tOr,tNot,tYes,gName,gTup,gCons,gNil,gSub,aa',ab',T_bind,T_ok,ba',bb',bc',T_ite,ST_nx,ST_ret,ac',ad',ae',af',ag',if_true,if_false,ah']
    exact h1
end Mm
namespace Mm
open Classical in
def bestR (ws : List Wy) (b g : Int) : Option Rt := if h : ∃ x, Opt ws b g x then some (Classical.choose h) else none
theorem bestR_some {ws : List Wy} {b g : Int} {x : Rt} : bestR ws b g = some x ↔ Opt ws b g x := by
  unfold bestR
  constructor
  · intro h
    split at h
    · rename_i h1
      cases h
      exact Classical.choose_spec h1
    · cases h
  · intro h
    have h1 : ∃ x, Opt ws b g x := ⟨x, h⟩
    rw [dif_pos h1, (Classical.choose_spec h1).uniq h]
theorem opt_ex {ws : List Wy} {b v : Int} (hw : WaysOk ws) (b0 : 0 ≤ b) (b1 : b < 10) (h : Rch ws b v) : ∃ x, Opt ws b v x ∧ x.r.length ≤ 11 := by
  obtain ⟨kv, _, _, hv, ho⟩ := routesOpt_T (hs := []) hw b0 b1
  obtain ⟨p, hp, e⟩ := List.mem_map.mp ((hv v).mpr h)
  have := ho p hp
  rw [e] at this
  exact ⟨_, this⟩
theorem bestR_none {ws : List Wy} {b v : Int} (hw : WaysOk ws) (b0 : 0 ≤ b) (b1 : b < 10) : bestR ws b v = none ↔ ¬ Rch ws b v := by
  constructor
  · intro h hr
    obtain ⟨x, hx, _⟩ := opt_ex hw b0 b1 hr
    rw [bestR_some.mpr hx] at h
    cases h
  · intro h
    cases e : bestR ws b v with
    | none => rfl
    | some x => exact absurd (bestR_some.mp e).pth.rch h
theorem bestR_ex {ws : List Wy} {b v : Int} (hw : WaysOk ws) (b0 : 0 ≤ b) (b1 : b < 10) (h : Rch ws b v) : ∃ x, bestR ws b v = some x := by
  obtain ⟨x, hx, _⟩ := opt_ex hw b0 b1 h
  exact ⟨x, bestR_some.mpr hx⟩
theorem bestR_len {ws : List Wy} {b v : Int} {x : Rt} (hw : WaysOk ws) (b0 : 0 ≤ b) (b1 : b < 10) (h : bestR ws b v = some x) : x.r.length ≤ 11 := by
  have ho := bestR_some.mp h
  obtain ⟨y, hy, hl⟩ := opt_ex hw b0 b1 ho.pth.rch
  rw [ho.uniq hy]; exact hl
theorem bestWay_eq {ws : List Wy} {b g : Int} {hs : Hs} (hw : WaysOk ws) (b0 : 0 ≤ b) (b1 : b < 10) (g0 : 0 ≤ g) (g1 : g < 10) : c_best_way [.l (ws.map wyD), .int b, .int g] hs = .ok (bwD (bestR ws b g)) hs := by
  obtain ⟨o, e, B⟩ := bestWay_T (hs := hs) hw b0 b1 g0 g1
  have : o = bestR ws b g := by
    cases o with
    | none => exact ((bestR_none hw b0 b1).mpr (B.no rfl)).symm
    | some x => exact (bestR_some.mpr (B.yes x rfl)).symm
  rw [← this]; exact e
theorem Pth.first {ws : List Wy} {b v : Int} {x : Rt} (h : Pth ws b v x) : x.r.head? = some b := by
  induction h with
  | here => rfl
  | @step w x hx hm ih =>
    show (x.r ++ [w.b]).head? = some b
    rw [List.head?_append, ih]; rfl
theorem Pth.last {ws : List Wy} {b v : Int} {x : Rt} (h : Pth ws b v x) : x.r.getLast? = some v := by
  cases h with
  | here => rfl
  | step _ _ => simp [rowOf]
theorem Pth.ne {ws : List Wy} {b v : Int} {x : Rt} (h : Pth ws b v x) : x.r ≠ [] := fun e => by
  have := h.first
  rw [e] at this
  cases this
/-- a kind that lies on a route ahead of its end is come to by less -/
theorem ltB_grow {x : Rt} {w : Wy} (h : 0 ≤ w.l) : ltB x (rowOf x w) = true := by
  unfold ltB rowOf
  simp only
  by_cases a : x.l = x.l + w.l
  · rw [if_pos a, if_neg (by omega)]
    exact decide_eq_true (by omega)
  · rw [if_neg a]
    exact decide_eq_true (by omega)
theorem lt_of_le_lt {x y z : Rt} (h1 : leR x y) (h2 : ltB y z = true) : ltB x z = true := by
  cases h : ltB x z with
  | true => rfl
  | false =>
    have hzx : leR z x := h
    have := le_trans hzx h1
    unfold leR at this
    rw [h2] at this
    cases this
theorem Pth.before {ws : List Wy} (hw : WaysOk ws) {b v : Int} {x : Rt} (h : Pth ws b v x) : ∀ k ∈ x.r, ∃ y, Pth ws b k y ∧ leR y x := by
  induction h with
  | here =>
    intro k hk
    have : k = b := by simpa using hk
    rw [this]
    exact ⟨_, .here, le_refl _⟩
  | @step w x hx hm ih =>
    intro k hk
    rcases List.mem_append.mp (show k ∈ x.r ++ [w.b] from hk) with z | z
    · obtain ⟨y, h1, h2⟩ := ih k z
      exact ⟨y, h1, le_trans h2 (row_grow (hw.ok w hm).l0)⟩
    · have : k = w.b := by simpa using z
      rw [this]
      exact ⟨_, .step hx hm, le_refl _⟩
/-- the last way of a best route goes on from a best one, to a kind that isn't on it -/
theorem Opt.step_inv {ws : List Wy} (hw : WaysOk ws) {b : Int} {w : Wy} {x : Rt} (hx : Pth ws b w.a x) (hm : w ∈ ws) (h : Opt ws b w.b (rowOf x w)) : Opt ws b w.a x ∧ w.b ∉ x.r := by
  refine ⟨⟨hx, fun y hy => ?_⟩, fun hk => ?_⟩
  · have h1 := h.least _ (.step hy hm)
    cases hc : ltB y x with
    | false => exact hc
    | true =>
      exfalso
      have h2 : leR (rowOf y w) (rowOf x w) := row_mono hy.num hx.num (le_of_lt hc)
      have h3 := le_anti h1 h2
      have : x = y := by
        obtain ⟨l, n, r⟩ := x
        obtain ⟨l2, n2, r2⟩ := y
        simp [rowOf] at h3
        obtain ⟨a1, a2, a3⟩ := h3
        have : l = l2 := by omega
        subst this a2 a3
        rfl
      rw [this] at hc
      have := le_refl y
      unfold leR at this
      rw [this] at hc
      cases hc
  · obtain ⟨y, h1, h2⟩ := hx.before hw _ hk
    have h3 := h.least _ h1
    have h4 := lt_of_le_lt h2 (ltB_grow (x := x) (w := w) (hw.ok w hm).l0)
    unfold leR at h3
    rw [h4] at h3
    cases h3
end Mm
namespace Mm
/-- what may be walked: a tuple, a list -/
def Wk (x : D) (ds : List D) (hs : Hs) : Prop := x = .t ds ∨ x = .l ds ∨ ∃ n, x = .loc n ∧ hs[n]? = some (.lst ds)
theorem Wk.more {x : D} {ds : List D} {hs : Hs} (h : Wk x ds hs) (m : Hs) : Wk x ds (hs ++ m) := by
  rcases h with h | h | ⟨n, h, e⟩
  · exact .inl h
  · exact .inr (.inl h)
  · exact .inr (.inr ⟨n, h, by rw [List.getElem?_append_left (List.getElem?_eq_some_iff.mp e).1]; exact e⟩)
end Mm
namespace Mm
theorem res_bw (o : Option Rt) (hs : Hs) : res (bwD o) hs = bwD o := by cases o <;> rfl
theorem len_of {x : D} {ds : List D} {hs : Hs} (h : seqOf x hs = some ds) : vLen [x] hs = .ok (.int (ds.length : Nat)) hs := by
  unfold vLen
  simp [one1, h]
theorem len_ziL {ns : List Int} {hs : Hs} : vLen [.l (zi ns)] hs = .ok (.int (ns.length : Nat)) hs := by
  rw [len_of (ds := zi ns) rfl]; simp
/-- a loop over a count -/
theorem T_rng {n : Nat} {g : MG} {body : MS} {V : D → Hs → Prop} (I : Nat → Fs → Hs → Prop) {N : Fs → Hs → Prop} {fs : Fs} {hs : Hs} (h0 : I 0 fs hs)
    (step : ∀ k, k < n → ∀ fs hs, I k fs hs → R.T (g (.int (k : Nat)) fs hs) fun fs' h1 => RS.T (body fs' h1) (fun fs2 h2 => I (k + 1) fs2 h2) V)
    (fin : ∀ fs hs, I n fs hs → N fs hs) : RS.T (forL none g body (rng 0 n) fs hs) N V := by
  refine T_for (k := none) (fun done fs hs => I done.length fs hs) N (fun _ _ _ _ => trivial) ?_ (fun fs hs h => fin fs hs (by rw [rng_len] at h; exact h)) h0
  intro done x rest fs hs e h
  have ex : (rng 0 n)[done.length]? = some x := by rw [e]; simp
  obtain ⟨h1, rfl⟩ := rng_get ex
  refine (show R.T _ _ from (by
    have := step done.length h1 fs hs h
    rw [show ((0 : Int) + (done.length : Nat)) = (done.length : Nat) from by omega]
    rw [List.length_append, List.length_singleton]
    exact this))
end Mm
namespace Mm
/-- one way is looked at -/
def btr (kv : Kv) (w : Wy) : Kv := match lk kv w.a with
  | none => kv
  | some one => if w.b ∈ one.r then kv else (match lk kv w.b with
    | none => ptI kv w.b (rowOf one w)
    | some old => if ltB (rowOf one w) old = true then ptI kv w.b (rowOf one w) else kv)
structure Btr (ws : List Wy) (b : Int) (kv : Kv) : Prop where
  nd : (kv.map (·.1)).Nodup
  pth : ∀ p ∈ kv, Pth ws b p.1 p.2
  smp : ∀ p ∈ kv, p.2.r.Nodup
theorem Btr.step {ws : List Wy} {b : Int} {kv : Kv} {w : Wy} (B : Btr ws b kv) (hm : w ∈ ws) : Btr ws b (btr kv w) := by
  unfold btr
  cases e : lk kv w.a with
  | none => exact B
  | some one =>
    simp only
    by_cases hb : w.b ∈ one.r
    · rw [if_pos hb]; exact B
    · rw [if_neg hb]
      have h1 := lk_mem e
      have put : Btr ws b (ptI kv w.b (rowOf one w)) := by
        refine ⟨pt_nd B.nd, fun p hp => ?_, fun p hp => ?_⟩
        · rcases pt_mem hp with z | z
          · rw [z]; exact .step (B.pth _ h1) hm
          · exact B.pth p z.1
        · rcases pt_mem hp with z | z
          · rw [z]
            show (one.r ++ [w.b]).Nodup
            exact List.nodup_append.mpr ⟨B.smp _ h1, by simp, fun x hx y hy z => hb (by
              have : y = w.b := by simpa using hy
              rw [← this, ← z]; exact hx)⟩
          · exact B.smp p z.1
      cases lk kv w.b with
      | none => exact put
      | some old =>
        simp only
        split
        · exact put
        · exact B
theorem Btr.len {ws : List Wy} {b : Int} {kv : Kv} (hw : WaysOk ws) (b0 : 0 ≤ b) (b1 : b < 10) (B : Btr ws b kv) : kv.length ≤ 10 := by
  have := ten_le B.nd (fun k hk => by
    obtain ⟨p, h1, rfl⟩ := List.mem_map.mp hk
    exact (rch_lo hw b0 b1 (B.pth p h1).rch).1) (fun k hk => by
    obtain ⟨p, h1, rfl⟩ := List.mem_map.mp hk
    exact (rch_lo hw b0 b1 (B.pth p h1).rch).2)
  simpa using this
end Mm
namespace Mm
/-- a list, frozen or open -/
def Ls (x : D) (xs : List D) (hs : Hs) : Prop := x = .l xs ∨ ∃ n, x = .loc n ∧ hs[n]? = some (.lst xs)
theorem Ls.seq {x : D} {xs : List D} {hs : Hs} (h : Ls x xs hs) : seqOf x hs = some xs := by
  rcases h with h | ⟨n, h, e⟩
  · rw [h]; rfl
  · rw [h]; unfold seqOf; simp only [e]
theorem Ls.non {x : D} {xs : List D} {hs : Hs} (h : Ls x xs hs) : isNon x = false := by
  rcases h with h | ⟨n, h, e⟩ <;> (rw [h]; rfl)
end Mm
namespace Mm
theorem Pth.cat {ws : List Wy} {b u g : Int} {y z : Rt} (hy : Pth ws b u y) (hz : Pth ws u g z) : ∃ x, Pth ws b g x ∧ x.l = y.l + z.l := by
  induction hz with
  | here => exact ⟨y, hy, by simp⟩
  | @step w z' _ hm ih =>
    obtain ⟨x, hx, e⟩ := ih
    refine ⟨rowOf x w, .step hx hm, ?_⟩
    show x.l + w.l = y.l + (z'.l + w.l)
    omega
theorem loss_le {x y : Rt} (h : leR x y) : x.l ≤ y.l := by
  unfold leR ltB at h
  by_cases e : y.l = x.l
  · omega
  · rw [if_neg e] at h
    simp at h
    omega
structure Hng (ws : List Wy) (b : Int) (x : Rt) (ls : List Int) : Prop where
  len : ls.length + 1 = x.r.length
  sum : ls.sum = x.l
  pre : ∀ (k : Nat) (u : Int), x.r[k]? = some u → ∃ y, Opt ws b u y ∧ y.r = x.r.take (k + 1) ∧ y.l = (ls.take k).sum
  wy : ∀ k, k < ls.length → ∃ w ∈ ws, x.r[k]? = some w.a ∧ x.r[k + 1]? = some w.b ∧ ls[k]? = some w.l
  nd : x.r.Nodup
theorem hng {ws : List Wy} (hw : WaysOk ws) {b v : Int} {x : Rt} (h : Pth ws b v x) : Opt ws b v x → ∃ ls, Hng ws b x ls := by
  induction h with
  | here =>
    intro O
    refine ⟨[], rfl, rfl, fun k u e => ?_, fun k h => absurd h (Nat.not_lt_zero k), by simp⟩
    match k with
    | 0 => cases e; exact ⟨_, O, rfl, rfl⟩
    | k + 1 => simp at e
  | @step w y hy hm ih =>
    intro O
    obtain ⟨Oy, hn⟩ := Opt.step_inv hw hy hm O
    obtain ⟨ls, I⟩ := ih Oy
    have il := I.len
    have er : (rowOf y w).r = y.r ++ [w.b] := rfl
    refine ⟨ls ++ [w.l], by rw [er]; simp; omega, by rw [List.sum_append, I.sum]; simp [rowOf], fun k u e => ?_, fun k hk => ?_, ?_⟩
    · rw [er] at e
      by_cases h1 : k < y.r.length
      · rw [List.getElem?_append_left h1] at e
        obtain ⟨z, O1, e1, e2⟩ := I.pre k u e
        refine ⟨z, O1, ?_, ?_⟩
        · rw [er, List.take_append_of_le_length (by omega)]; exact e1
        · rw [List.take_append_of_le_length (by omega)]; exact e2
      · have h2 := (List.getElem?_eq_some_iff.mp e).1
        have h3 : k = y.r.length := by simp at h2; omega
        subst h3
        rw [List.getElem?_append_right (Nat.le_refl _)] at e
        simp at e
        subst e
        refine ⟨_, O, ?_, ?_⟩
        · rw [er, List.take_of_length_le (by simp)]
        · rw [List.take_of_length_le (by simp; omega), List.sum_append, I.sum]; simp [rowOf]
    · rw [er]
      by_cases h1 : k < ls.length
      · obtain ⟨w1, h2, h3, h4, h5⟩ := I.wy k h1
        exact ⟨w1, h2, by rw [List.getElem?_append_left (by omega)]; exact h3, by rw [List.getElem?_append_left (by omega)]; exact h4, by rw [List.getElem?_append_left h1]; exact h5⟩
      · have h2 : k = ls.length := by simp at hk; omega
        subst h2
        have hl := hy.last
        rw [List.getLast?_eq_getElem?] at hl
        refine ⟨w, hm, ?_, ?_, by simp⟩
        · rw [List.getElem?_append_left (by omega), show ls.length = y.r.length - 1 from by omega]; exact hl
        · rw [show ls.length + 1 = y.r.length from il]; simp
    · rw [er]
      exact List.nodup_append.mpr ⟨I.nd, by simp, fun a ha c hc => by
        have : c = w.b := by simpa using hc
        subst this
        exact fun z => hn (z ▸ ha)⟩
theorem Hng.suf {ws : List Wy} {b g : Int} {x : Rt} {ls : List Int} (I : Hng ws b x ls) (hg : x.r[ls.length]? = some g) : ∀ (m k : Nat) (u : Int), k + m = ls.length → x.r[k]? = some u → ∃ z, Pth ws u g z ∧ z.l = (ls.drop k).sum
  | 0, k, u, e, hu => by
    have e' : k = ls.length := by omega
    subst e'
    rw [hg] at hu
    cases hu
    exact ⟨_, .here, by rw [List.drop_length]; rfl⟩
  | m + 1, k, u, e, hu => by
    obtain ⟨w, h1, h2, h3, h4⟩ := I.wy k (by omega)
    rw [h2] at hu
    cases hu
    obtain ⟨z, hz, ez⟩ := Hng.suf I hg m (k + 1) w.b (by omega) h3
    obtain ⟨z2, hz2, e2⟩ := Pth.cat (.step (.here (b := w.a)) h1) hz
    refine ⟨z2, hz2, ?_⟩
    have hk : k < ls.length := by omega
    rw [List.drop_eq_getElem_cons hk, List.sum_cons, e2, ez]
    have : ls[k] = w.l := by rw [List.getElem?_eq_getElem hk] at h4; exact Option.some.inj h4
    rw [this]
    show (0 + w.l) + _ = _
    omega
/-- what the law finds of a best route -/
structure K6Facts (ws : List Wy) (b g : Int) (x : Rt) (ls : List Int) : Prop where
  first : x.r[0]? = some b
  last : x.r[ls.length]? = some g
  rng : ∀ u ∈ x.r, 0 ≤ u ∧ u < 10
  end_ : ∀ (k : Nat) (u : Int), x.r[k]? = some u → ∃ z, bestR ws u g = some z ∧ z.l = (ls.drop k).sum
  third : ∀ (t : Int) (z : Rt), bestR ws g t = some z → ∃ o, bestR ws b t = some o ∧ o.l ≤ x.l + z.l
  lim : x.r.length ≤ 11
theorem k6facts {ws : List Wy} (hw : WaysOk ws) {b g : Int} {x : Rt} {ls : List Int} (b0 : 0 ≤ b) (b1 : b < 10) (O : Opt ws b g x) (I : Hng ws b x ls) : K6Facts ws b g x ls := by
  have hf : x.r[0]? = some b := by
    have := O.pth.first
    rwa [List.head?_eq_getElem?] at this
  have hl : x.r[ls.length]? = some g := by
    have := O.pth.last
    rw [List.getLast?_eq_getElem?] at this
    rw [show ls.length = x.r.length - 1 from by have := I.len; omega]; exact this
  have hr : ∀ u ∈ x.r, 0 ≤ u ∧ u < 10 := fun u hu => by
    obtain ⟨k, hk⟩ := List.mem_iff_getElem?.mp hu
    obtain ⟨y, Oy, _⟩ := I.pre k u hk
    exact rch_lo hw b0 b1 Oy.pth.rch
  have sumd : ∀ k : Nat, (ls.take k).sum + (ls.drop k).sum = x.l := fun k => by
    rw [← List.sum_append, List.take_append_drop, I.sum]
  refine ⟨hf, hl, hr, fun k u hu => ?_, fun t z hz => ?_, bestR_len hw b0 b1 (bestR_some.mpr O)⟩
  · have hk : k ≤ ls.length := by have := (List.getElem?_eq_some_iff.mp hu).1; have := I.len; omega
    obtain ⟨s, hs, es⟩ := I.suf hl (ls.length - k) k u (by omega) hu
    obtain ⟨u0, u1⟩ := hr u (List.mem_of_getElem? hu)
    obtain ⟨z, hz⟩ := bestR_ex hw u0 u1 hs.rch
    have Oz := bestR_some.mp hz
    refine ⟨z, hz, ?_⟩
    have h1 := loss_le (Oz.least s hs)
    obtain ⟨y, Oy, _, ey⟩ := I.pre k u hu
    obtain ⟨c, hc, ec⟩ := Pth.cat Oy.pth Oz.pth
    have h2 := loss_le (O.least c hc)
    have h3 := sumd k
    omega
  · have Oz := bestR_some.mp hz
    obtain ⟨c, hc, ec⟩ := Pth.cat O.pth Oz.pth
    obtain ⟨o, ho⟩ := bestR_ex hw b0 b1 hc.rch
    have := loss_le ((bestR_some.mp ho).least c hc)
    exact ⟨o, ho, by omega⟩
abbrev kk2 (a b : Int) : List Mm.Key := [.inl a, .inl b]
theorem dgetK_app {κ : Type} [DecidableEq κ] {k : κ} : ∀ {l m : List (κ × D)}, dget (l ++ m) k = (dget l k).or (dget m k)
  | [], m => by
    show dget m k = (dget ([] : List (κ × D)) k).or (dget m k)
    have e : dget ([] : List (κ × D)) k = none := by unfold dget; rfl
    rw [e]; rfl
  | p :: r, m => by
    have e : ∀ q : List (κ × D), dget (p :: q) k = if p.1 = k then some p.2 else dget q k := fun q => by rw [dget]
    show dget (p :: (r ++ m)) k = _
    rw [e, e]
    by_cases h : p.1 = k
    · rw [if_pos h, if_pos h]; rfl
    · rw [if_neg h, if_neg h]; exact dgetK_app (l := r)
theorem dgetK_no {κ : Type} [DecidableEq κ] {k : κ} : ∀ {l : List (κ × D)}, k ∉ l.map (·.1) → dget l k = none
  | [], _ => rfl
  | p :: r, h => by
    unfold dget
    rw [if_neg fun e => h (by simp [e])]
    exact dgetK_no fun z => h (by simp only [List.map_cons]; exact List.mem_cons_of_mem _ z)
theorem dputK_new {κ : Type} [DecidableEq κ] {k : κ} {v : D} {l : List (κ × D)} (h : k ∉ l.map (·.1)) : dput l k v = l ++ [(k, v)] := by
  unfold dput
  rw [if_neg]
  intro e
  obtain ⟨p, hp, e2⟩ := List.any_eq_true.mp e
  exact h (List.mem_map.mpr ⟨p, hp, by simpa using e2⟩)
theorem dmergeT_new : ∀ {more acc : List (List Mm.Key × D)}, ((acc ++ more).map (·.1)).Nodup → dmergeT acc more = acc ++ more
  | [], acc, _ => by simp [dmergeT]
  | p :: r, acc, h => by
    have hn : p.1 ∉ acc.map (·.1) := fun z => by
      rw [List.map_append, List.nodup_append] at h
      exact h.2.2 _ z _ (by simp) rfl
    show dmergeT (dput acc p.1 p.2) r = _
    rw [dputK_new hn, dmergeT_new (by simpa using h)]
    simp
def tab (ws : List Wy) (n : Nat) : List (List Mm.Key × D) := (List.range n).map fun i => (kk2 ((i / 10 : Nat) : Int) ((i % 10 : Nat) : Int), bwD (bestR ws ((i / 10 : Nat) : Int) ((i % 10 : Nat) : Int)))
theorem tab_succ (ws : List Wy) (n : Nat) : tab ws (n + 1) = tab ws n ++ [(kk2 ((n / 10 : Nat) : Int) ((n % 10 : Nat) : Int), bwD (bestR ws ((n / 10 : Nat) : Int) ((n % 10 : Nat) : Int)))] := by
  unfold tab
  rw [List.range_succ, List.map_append]; rfl
theorem kk2_inj {i j : Nat} (h : kk2 ((i / 10 : Nat) : Int) ((i % 10 : Nat) : Int) = kk2 ((j / 10 : Nat) : Int) ((j % 10 : Nat) : Int)) : i = j := by
  simp only [kk2, List.cons.injEq, Sum.inl.injEq, and_true] at h
  omega
theorem tab_no {ws : List Wy} {n m : Nat} (h : n ≤ m) : kk2 ((m / 10 : Nat) : Int) ((m % 10 : Nat) : Int) ∉ (tab ws n).map (·.1) := fun z => by
  unfold tab at z
  rw [List.map_map] at z
  obtain ⟨i, hi, e⟩ := List.mem_map.mp z
  have := kk2_inj e
  have := List.mem_range.mp hi
  omega
theorem tab_get {ws : List Wy} : ∀ {n i : Nat}, i < n → dget (tab ws n) (kk2 ((i / 10 : Nat) : Int) ((i % 10 : Nat) : Int)) = some (bwD (bestR ws ((i / 10 : Nat) : Int) ((i % 10 : Nat) : Int)))
  | 0, _, h => absurd h (Nat.not_lt_zero _)
  | n + 1, i, h => by
    rw [tab_succ, dgetK_app]
    by_cases e : i = n
    · subst e
      rw [dgetK_no (tab_no (Nat.le_refl _)), Option.none_or]
      unfold dget
      rw [if_pos rfl]
    · rw [tab_get (by omega : i < n)]; rfl
theorem tab_at {ws : List Wy} {a c : Int} (a0 : 0 ≤ a) (a1 : a < 10) (c0 : 0 ≤ c) (c1 : c < 10) : dget (tab ws 100) (kk2 a c) = some (bwD (bestR ws a c)) := by
  have h := tab_get (ws := ws) (n := 100) (i := 10 * a.toNat + c.toNat) (by omega)
  have e1 : (((10 * a.toNat + c.toNat) / 10 : Nat) : Int) = a := by omega
  have e2 : (((10 * a.toNat + c.toNat) % 10 : Nat) : Int) = c := by omega
  rw [e1, e2] at h
  exact h
theorem tab_key {ws : List Wy} {k : List Mm.Key} (h : k ∈ (tab ws 100).map (·.1)) : ∃ a c : Int, k = kk2 a c ∧ 0 ≤ a ∧ a < 10 ∧ 0 ≤ c ∧ c < 10 := by
  unfold tab at h
  rw [List.map_map] at h
  obtain ⟨i, hi, e⟩ := List.mem_map.mp h
  have := List.mem_range.mp hi
  exact ⟨_, _, e.symm, by omega, by omega, by omega, by omega⟩
def lossKv (ws : List Wy) : List (List Mm.Key × D) := ws.map fun w => (kk2 w.a w.b, .int w.l)
theorem loss_nd {ws : List Wy} (h : (ws.map Wy.p).Nodup) : ((lossKv ws).map (·.1)).Nodup := by
  unfold lossKv
  rw [List.map_map]
  have : ((fun x : List Mm.Key × D => x.1) ∘ fun w : Wy => (kk2 w.a w.b, D.int w.l)) = (fun p : Int × Int => kk2 p.1 p.2) ∘ Wy.p := rfl
  rw [this, ← List.map_map]
  refine List.Pairwise.map _ (fun p q hne => ?_) h
  obtain ⟨a, b⟩ := p
  obtain ⟨c, d⟩ := q
  intro e
  simp only [kk2, List.cons.injEq, Sum.inl.injEq, and_true] at e
  exact hne (by rw [e.1, e.2])
theorem loss_get {ws : List Wy} : ∀ {l : List Wy}, (l.map Wy.p).Nodup → ∀ w ∈ l, dget (lossKv l) (kk2 w.a w.b) = some (.int w.l)
  | [], _, _, h => nomatch h
  | u :: r, nd, w, h => by
    show dget ((kk2 u.a u.b, D.int u.l) :: lossKv r) _ = _
    unfold dget
    rw [List.map_cons, List.nodup_cons] at nd
    rcases List.mem_cons.mp h with e | h
    · subst e; rw [if_pos rfl]
    · rw [if_neg]
      · exact loss_get (ws := ws) nd.2 w h
      · intro e
        simp only [kk2, List.cons.injEq, Sum.inl.injEq, and_true] at e
        exact nd.1 (List.mem_map.mpr ⟨w, h, by unfold Wy.p; rw [e.1, e.2]⟩)
theorem prs_loss : ∀ ws : List Wy, prsOfT (ws.map fun w => D.t [.t [.int w.a, .int w.b], .int w.l]) = some (lossKv ws)
  | [] => rfl
  | w :: r => by
    show prsOfT (D.t [.t [.int w.a, .int w.b], .int w.l] :: r.map fun w => D.t [.t [.int w.a, .int w.b], .int w.l]) = _
    unfold prsOfT
    rw [prs_loss r]
    rfl
section
variable {ws : List Wy} {ho : L2.HO} {ds : List Int}
noncomputable abbrev hk6 (ws : List Wy) (ho : L2.HO) (ds : List Int) : Hs := [.lst (zi ds), .dt (lossKv ws), .lt (tab ws 100) ho]
theorem ixT {a c : Int} (a0 : 0 ≤ a) (a1 : a < 10) (c0 : 0 ≤ c) (c1 : c < 10) : vIxD (.loc 2) (.t [.int a, .int c]) (hk6 ws ho ds) = .ok (bwD (bestR ws a c)) (hk6 ws ho ds) := by
  have e : dlook (.loc 2) (.t [.int a, .int c]) (hk6 ws ho ds) = some (dget (tab ws 100) (kk2 a c)) := rfl
  unfold vIxD
  rw [e, tab_at a0 a1 c0 c1]
theorem ixLoss (hw : WaysOk ws) {w : Wy} (h : w ∈ ws) : vIxD (.loc 1) (.t [.int w.a, .int w.b]) (hk6 ws ho ds) = .ok (.int w.l) (hk6 ws ho ds) := by
  have e : dlook (.loc 1) (.t [.int w.a, .int w.b]) (hk6 ws ho ds) = some (dget (lossKv ws) (kk2 w.a w.b)) := rfl
  unfold vIxD
  rw [e, loss_get (ws := ws) hw.nd w h]
theorem ixL {r : List Int} {k : Nat} {u : Int} {hs : Hs} (h : r[k]? = some u) : vIx (.l (zi r)) (.int (k : Nat)) hs = .ok (.int u) hs := by
  have hk := (List.getElem?_eq_some_iff.mp h).1
  have e1 : ixN (zi r).length (k : Nat) = some k := by
    unfold ixN
    rw [if_pos (by omega), if_pos (by simpa using hk)]
    simp
  unfold vIx
  simp only [seqOf, e1, Option.bind_some]
  rw [List.getElem?_map, h]
  rfl
theorem ixLast {r : List Int} {u : Int} {hs : Hs} (h : r[r.length - 1]? = some u) : vIx (.l (zi r)) (.int (-1)) hs = .ok (.int u) hs := by
  have hk := (List.getElem?_eq_some_iff.mp h).1
  have e1 : ixN (zi r).length (-1) = some (r.length - 1) := by
    unfold ixN
    rw [if_neg (by omega), if_pos (by rw [List.length_map]; omega), List.length_map]
    congr 1
    omega
  unfold vIx
  simp only [seqOf, e1, Option.bind_some]
  rw [List.getElem?_map, h]
  rfl
theorem sumZ {ls : List Int} {hs : Hs} : vSumL [.l (zi ls)] hs = .ok (.int ls.sum) hs := by
  have e : ((one1 [D.l (zi ls)]).bind fun d => listOf d hs).bind intsOf = some ls := intsOf_zi ls
  unfold vSumL
  rw [e]
theorem lenSet {r : List Int} {hs : Hs} (h : r.Nodup) (hl : r.length ≤ 4000) : vLenSetL (.l (zi r)) hs = .ok (.int r.length) hs := by
  have e : (listOf (.l (zi r)) hs).bind intsOf = some r := intsOf_zi r
  unfold vLenSetL
  rw [e]
  simp only
  rw [if_pos ⟨hl, h⟩]
theorem cutTo {ls : List Int} {k : Nat} : cut (zi ls) none (some (k : Int)) = zi (ls.take k) := by
  unfold cut sIx
  simp only
  rw [if_neg (by omega)]
  simp only [List.drop_zero, Nat.sub_zero, List.length_map, Int.toNat_natCast]
  unfold zi
  rw [← List.map_take]
  congr 1
  rcases Nat.le_total k ls.length with h | h
  · rw [Nat.min_eq_left h]
  · rw [Nat.min_eq_right h, List.take_of_length_le h, List.take_of_length_le (Nat.le_refl _)]
theorem cutFrom {ls : List Int} {k : Nat} : cut (zi ls) (some (k : Int)) none = zi (ls.drop k) := by
  unfold cut sIx
  simp only
  rw [if_neg (by omega)]
  simp only [List.length_map, Int.toNat_natCast]
  unfold zi
  rw [← List.map_drop]
  rcases Nat.le_total k ls.length with h | h
  · rw [Nat.min_eq_left h, List.take_of_length_le (by simp)]
  · rw [Nat.min_eq_right h, List.drop_of_length_le (Nat.le_refl _), List.drop_of_length_le h]; simp
theorem slTo {ls : List Int} {k : Nat} {hs : Hs} : vSl (.l (zi ls)) none (some (k : Int)) hs = .ok (.l (zi (ls.take k))) hs := by
  unfold vSl
  simp only [listOf, cutTo]
theorem slFrom {ls : List Int} {k : Nat} {hs : Hs} : vSl (.l (zi ls)) (some (k : Int)) none hs = .ok (.l (zi (ls.drop k))) hs := by
  unfold vSl
  simp only [listOf, cutFrom]
theorem ne_bws {o : Option Rt} {hs : Hs} : vNe (bwD o) (bwD o) hs = .ok (.bl false) hs := by
  have h1 : deq (bwD o) (bwD o) = true := by
    cases o with
    | none => rfl
    | some x => simp [bwD, deq, deqL, deq_zi]
  have h2 : okd 60 (bwD o) = true := by
    cases o with
    | none => rfl
    | some x =>
      unfold bwD
      rw [okd_t]
      unfold okL okL okL
      simp [okd_l, okL_zi, okd]
  unfold vNe eqB
  simp only [res_bw, h2, h1, Bool.and_self, if_true]
  rfl
end
theorem T_nxOf {r : RS} {N : Fs → Hs → Prop} (h : RS.T r N fun _ _ => False) : ∃ fs hs, r = .nx fs hs ∧ N fs hs := by
  cases r with
  | nx fs hs => exact ⟨fs, hs, rfl, h⟩
  | ret d hs => exact h.elim
  | brk fs hs => exact h.elim
  | cnt fs hs => exact h.elim
  | exc x p fs hs => exact h.elim
  | bad => exact h.elim
theorem forK_T {n : Nat} {o : O} {j1 j2 : Nat} {body : MS} {h : Hs} (I : Fs → Prop) (hst : h[n]? = some o) : ∀ (ks : List (List Mm.Key)) (fs : Fs), I fs → (∀ k ∈ ks, ∃ k1 k2, k = [k1, k2] ∧ ∀ fs, I fs → RS.T (body ((fs.set j1 (some (keyOb k1))).set j2 (some (keyOb k2))) h) (fun fs2 h2 => I fs2 ∧ h2 = h) (fun _ _ => False)) → ∃ fs', forK n o j1 j2 body ks fs h = .nx fs' h ∧ I fs'
  | [], fs, hi, _ => ⟨fs, by unfold forK; rw [if_pos hst], hi⟩
  | k :: r, fs, hi, hb => by
    obtain ⟨k1, k2, rfl, hk⟩ := hb k List.mem_cons_self
    obtain ⟨fs2, h2, e, hi2, rfl⟩ := T_nxOf (hk fs hi)
    obtain ⟨fs', e', hi'⟩ := forK_T I hst r fs2 hi2 fun k hm => hb k (List.mem_cons_of_mem _ hm)
    refine ⟨fs', ?_, hi'⟩
    unfold forK
    rw [if_pos hst, e]
    exact e'
section
variable {ws : List Wy} {ho : L2.HO} {ds : List Int} {c0 c1 c2 : Option D}
theorem at_T (hw : WaysOk ws) {b g : Int} {x : Rt} {ls : List Int} (b0 : 0 ≤ b) (b1 : b < 10) (g0 : 0 ≤ g) (g1 : g < 10) (I : Hng ws b x ls) (X : K6Facts ws b g x ls) {k : Nat} (hk : k < x.r.length) {c9 c10 c13 : Option D} {N : Fs → Hs → Prop}
    (hN : N [c0, c1, c2, some (.loc 1), some (.loc 2), some (.int b), some (.int g), some (.l (zi ls)), some (.int (k : Nat)), c9, c10, some (.int x.l), some (.l (zi x.r)), c13] (hk6 ws ho ds)) :
    RS.T (body_law_2 [c0, c1, c2, some (.loc 1), some (.loc 2), some (.int b), some (.int g), some (.l (zi ls)), some (.int (k : Nat)), c9, c10, some (.int x.l), some (.l (zi x.r)), c13] (hk6 ws ho ds)) N fun _ _ => False := by
  obtain ⟨u, hu⟩ : ∃ u, x.r[k]? = some u := ⟨x.r[k], List.getElem?_eq_getElem hk⟩
  obtain ⟨u0, u1⟩ := X.rng u (List.mem_of_getElem? hu)
  obtain ⟨y, Oy, e1, e2⟩ := I.pre k u hu
  obtain ⟨z, hz, e3⟩ := X.end_ k u hu
  have z2 : ∀ a b : D, ([a, b] : List D).length ≤ 100000 := fun _ _ => by simp
  have ey : bestR ws b u = some y := bestR_some.mpr Oy
  have et : ∀ h, vNe (bwD (some y)) (.t [.int (ls.take k).sum, .l (zi (x.r.take (k + 1)))]) h = .ok (.bl false) h := fun h => by
    rw [← e1, ← e2]; exact ne_bws (o := some y)
  have i0 : ∀ h, vIx (bwD (some z)) (.int 0) h = .ok (.int z.l) h := fun _ => rfl
  have es : ∀ h, vAdd (.int (k : Nat)) (.int 1) h = .ok (.int ((k + 1 : Nat) : Int)) h := fun h => rfl
  simp only [body_law_2, eSl, oNone, oSome, vTup, z2, ixL hu, ixT b0 b1 u0 u1, ixT u0 u1 g0 g1, ey, hz, slTo, slFrom, sumZ, es, et, i0, e3, ne_int, decide_true, sSeq,ST_seq,sAsg,sPar,sExpr,sIf,sRet,sRetN,sNx,ST_bindS,eMeth,eArgs,aCons,aNil,eBin,eUn,eC,eVar,eAnd,eOr,eNot,eIf,tVal,tAnd,tOr,tNot,tYes,gName,gTup,gCons,gNil,gSub,aa',ab',T_bind,T_ok,ba',bb',bc',T_ite,ST_nx,ST_ret,ac',ad',ae',af',ag',if_true,if_false,ah']
  exact hN
theorem third_T (hw : WaysOk ws) {b g : Int} {x : Rt} {ls : List Int} (b0 : 0 ≤ b) (b1 : b < 10) (g0 : 0 ≤ g) (g1 : g < 10) (X : K6Facts ws b g x ls) {t : Nat} (ht : t < 10) {c7 c8 c10 c12 c13 : Option D} {N : Fs → Hs → Prop}
    (hN : ∀ c13, N [c0, c1, c2, some (.loc 1), some (.loc 2), some (.int b), some (.int g), c7, c8, some (.int (t : Nat)), c10, some (.int x.l), c12, c13] (hk6 ws ho ds)) :
    RS.T (body_law_3 [c0, c1, c2, some (.loc 1), some (.loc 2), some (.int b), some (.int g), c7, c8, some (.int (t : Nat)), c10, some (.int x.l), c12, c13] (hk6 ws ho ds)) N fun _ _ => False := by
  have z2 : ∀ a b : D, ([a, b] : List D).length ≤ 100000 := fun _ _ => by simp
  have t0 : (0 : Int) ≤ (t : Nat) := by omega
  have t1 : ((t : Nat) : Int) < 10 := by omega
  cases ez : bestR ws g (t : Nat) with
  | none =>
    have en : ∀ h, onN vNotN (bwD none) .non h = .ok (.bl false) h := fun _ => rfl
    simp only [body_law_3, vTup, z2, ixT g0 g1 t0 t1, ez, en, sSeq,ST_seq,sAsg,sPar,sExpr,sIf,sRet,sRetN,sNx,ST_bindS,eMeth,eArgs,aCons,aNil,eBin,eUn,eC,eVar,eAnd,eOr,eNot,eIf,tVal,tAnd,tOr,tNot,tYes,gName,gTup,gCons,gNil,gSub,aa',ab',T_bind,T_ok,ba',bb',bc',T_ite,ST_nx,ST_ret,ac',ad',ae',af',ag',if_true,if_false,ah']
    exact hN _
  | some z =>
    obtain ⟨o, eo, ho'⟩ := X.third _ z ez
    have en : ∀ h, onN vNotN (bwD (some z)) .non h = .ok (.bl true) h := fun _ => rfl
    have en2 : ∀ h, onN vIsN (bwD (some o)) .non h = .ok (.bl false) h := fun _ => rfl
    have i0 : ∀ (y : Rt) h, vIx (bwD (some y)) (.int 0) h = .ok (.int y.l) h := fun _ _ => rfl
    have ea : ∀ h, vAdd (.int x.l) (.int z.l) h = .ok (.int (x.l + z.l)) h := fun _ => rfl
    have eg : ∀ h, vGt (.int o.l) (.int (x.l + z.l)) h = .ok (.bl false) h := fun h => by
      unfold vGt vI
      simp; omega
    simp only [body_law_3, vTup, z2, ixT g0 g1 t0 t1, ixT b0 b1 t0 t1, ez, eo, en, en2, i0, ea, eg, sSeq,ST_seq,sAsg,sPar,sExpr,sIf,sRet,sRetN,sNx,ST_bindS,eMeth,eArgs,aCons,aNil,eBin,eUn,eC,eVar,eAnd,eOr,eNot,eIf,tVal,tAnd,tOr,tNot,tYes,gName,gTup,gCons,gNil,gSub,aa',ab',T_bind,T_ok,ba',bb',bc',T_ite,ST_nx,ST_ret,ac',ad',ae',af',ag',if_true,if_false,ah']
    exact hN _
theorem key_T (hw : WaysOk ws) {b g : Int} (b0 : 0 ≤ b) (b1 : b < 10) (g0 : 0 ≤ g) (g1 : g < 10) {c7 c8 c9 c10 c11 c12 c13 : Option D} {N : Fs → Hs → Prop}
    (hN : ∀ c7 c8 c9 c10 c11 c12 c13 : Option D, N [c0, c1, c2, some (.loc 1), some (.loc 2), some (.int b), some (.int g), c7, c8, c9, c10, c11, c12, c13] (hk6 ws ho ds)) :
    RS.T (body_law_4 [c0, c1, c2, some (.loc 1), some (.loc 2), some (.int b), some (.int g), c7, c8, c9, c10, c11, c12, c13] (hk6 ws ho ds)) N fun _ _ => False := by
  have z2 : ∀ a b : D, ([a, b] : List D).length ≤ 100000 := fun _ _ => by simp
  cases ex : bestR ws b g with
  | none =>
    have en : ∀ h, onN vNotN (bwD none) .non h = .ok (.bl false) h := fun _ => rfl
    simp only [body_law_4, vTup, z2, ixT b0 b1 g0 g1, ex, en, sSeq,ST_seq,sAsg,sPar,sExpr,sIf,sRet,sRetN,sNx,ST_bindS,eMeth,eArgs,aCons,aNil,eBin,eUn,eC,eVar,eAnd,eOr,eNot,eIf,tVal,tAnd,tOr,tNot,tYes,gName,gTup,gCons,gNil,gSub,aa',ab',T_bind,T_ok,ba',bb',bc',T_ite,ST_nx,ST_ret,ac',ad',ae',af',ag',if_true,if_false,ah']
    exact hN _ _ _ _ _ _ _
  | some x =>
    have O := bestR_some.mp ex
    obtain ⟨ls, I⟩ := hng hw O.pth O
    have X := k6facts hw b0 b1 O I
    have il := I.len
    have xl := X.lim
    have en : ∀ h, onN vNotN (bwD (some x)) .non h = .ok (.bl true) h := fun _ => rfl
    have eb : bwD (some x) = .t [.int x.l, .l (zi x.r)] := rfl
    have f0 : ∀ h, vIx (.l (zi x.r)) (.int 0) h = .ok (.int b) h := fun h => ixL (k := 0) X.first
    have f1 : ∀ h, vIx (.l (zi x.r)) (.int (-1)) h = .ok (.int g) h := fun h => ixLast (by rw [show x.r.length - 1 = ls.length from by omega]; exact X.last)
    have n1 : ∀ h, vNeg (.int 1) h = .ok (.int (-1)) h := fun _ => rfl
    have hlim : (-lim ≤ (1 : Int) ∧ (1 : Int) ≤ lim) ∧ (-lim ≤ (x.r.length : Int) ∧ (x.r.length : Int) ≤ lim) := by unfold lim; omega
    have hlim1 : -lim ≤ (x.r.length : Int) ∧ (x.r.length : Int) ≤ lim := hlim.2
    have hlim10 : -lim ≤ (10 : Int) ∧ (10 : Int) ≤ lim := by unfold lim; omega
    have lset : ∀ h, vLenSetL (.l (zi x.r)) h = .ok (.int x.r.length) h := fun h => lenSet I.nd (by omega)
    have ec : lcL none (Mm.gName 8) tYes (eBin vIxD (eVar 3) (eArgs vTup (aCons (eBin vIx (eVar 12) (eBin vSub (eVar 8) (eC (.int 1)))) (aCons (eBin vIx (eVar 12) (eVar 8)) aNil)))) (wipe [c0, c1, c2, some (.loc 1), some (.loc 2), some (.int b), some (.int g), c7, c8, c9, c10, some (.int x.l), some (.l (zi x.r)), c13] [8])
        (rng 1 ((x.r.length : Int) - 1).toNat) [] (hk6 ws ho ds) = .ok ([] ++ ((rng 1 ((x.r.length : Int) - 1).toNat).filter fun _ => true).map fun d => match d with
          | .int k => .int (ls.getD (k - 1).toNat 0)
          | _ => .non) (hk6 ws ho ds) := by
      refine lc_eq (k := none) (fun _ => true) (fun d => match d with
          | .int k => .int (ls.getD (k - 1).toNat 0)
          | _ => .non) trivial _ [] (fun d hd => ?_) (by rw [rng_len]; simp; omega)
      obtain ⟨j, hj⟩ := List.mem_iff_getElem?.mp hd
      obtain ⟨hj1, rfl⟩ := rng_get hj
      have hj2 : j < ls.length := by omega
      obtain ⟨w, hwm, w1, w2, w3⟩ := I.wy j hj2
      refine ⟨[c0, c1, c2, some (.loc 1), some (.loc 2), some (.int b), some (.int g), c7, some (.int (1 + j)), c9, c10, some (.int x.l), some (.l (zi x.r)), c13], rfl, rfl, fun _ => ?_⟩
      have es : ∀ h, vSub (.int (1 + (j : Int))) (.int 1) h = .ok (.int (j : Nat)) h := fun h => by
        show R.ok (D.int ((1 + (j : Int)) - 1)) h = _
        congr 2
        omega
      have e1 : ∀ h, vIx (.l (zi x.r)) (.int (1 + (j : Int))) h = .ok (.int w.b) h := fun h => by
        have := ixL (hs := h) w2
        rwa [show ((j + 1 : Nat) : Int) = 1 + (j : Int) from by omega] at this
      have eg : ls.getD ((1 + (j : Int)) - 1).toNat 0 = w.l := by
        rw [show ((1 + (j : Int)) - 1).toNat = j from by omega, List.getD, w3]; rfl
      simp only [es, ixL w1, e1, vTup, z2, ixLoss hw hwm, sSeq,ST_seq,sAsg,sPar,sExpr,sIf,sRet,sRetN,sNx,ST_bindS,eMeth,eArgs,aCons,aNil,eBin,eUn,eC,eVar,eAnd,eOr,eNot,eIf,tVal,tAnd,tOr,tNot,tYes,gName,gTup,gCons,gNil,gSub,aa',ab',T_bind,T_ok,ba',bb',bc',T_ite,ST_nx,ST_ret,ac',ad',ae',af',ag',if_true,if_false,ah']
      rw [eg]
    have eps : (((rng 1 ((x.r.length : Int) - 1).toNat).filter fun _ => true).map fun d => match d with
          | .int k => D.int (ls.getD (k - 1).toNat 0)
          | _ => D.non) = zi ls := by
      rw [List.filter_eq_self.mpr (fun _ _ => rfl)]
      refine List.ext_getElem? fun j => ?_
      rw [List.getElem?_map]
      by_cases hj : j < ls.length
      · have e1 : (rng 1 ((x.r.length : Int) - 1).toNat)[j]? = some (.int (1 + j)) := by
          have h1 : j < (rng 1 ((x.r.length : Int) - 1).toNat).length := by rw [rng_len]; omega
          rw [List.getElem?_eq_getElem h1]
          exact congrArg some (rng_get (List.getElem?_eq_getElem h1)).2
        rw [e1]
        unfold zi
        rw [List.getElem?_map, List.getElem?_eq_getElem hj]
        show some (D.int (ls.getD ((1 + (j : Int)) - 1).toNat 0)) = _
        rw [show ((1 + (j : Int)) - 1).toNat = j from by omega, List.getD, List.getElem?_eq_getElem hj]
        rfl
      · rw [List.getElem?_eq_none (by rw [rng_len]; omega), List.getElem?_eq_none (by simp; omega)]
        rfl
    simp only [body_law_4, vTup, z2, ixT b0 b1 g0 g1, ex, en, sSeq,ST_seq,sAsg,sPar,sExpr,sIf,sRet,sRetN,sNx,ST_bindS,eMeth,eArgs,aCons,aNil,eBin,eUn,eC,eVar,eAnd,eOr,eNot,eIf,tVal,tAnd,tOr,tNot,tYes,gName,gTup,gCons,gNil,gSub,aa',ab',T_bind,T_ok,ba',bb',bc',T_ite,ST_nx,ST_ret,ac',ad',ae',af',ag',if_true,if_false,ah']
    rw [eb]
    simp only [f0, f1, n1, lset, len_ziL, ne_int, decide_true, eLc, Mm.iRng2, int2, if_pos hlim, sSeq,ST_seq,sAsg,sPar,sExpr,sIf,sRet,sRetN,sNx,ST_bindS,eMeth,eArgs,aCons,aNil,eBin,eUn,eC,eVar,eAnd,eOr,eNot,eIf,tVal,tAnd,tOr,tNot,tYes,gName,gTup,gCons,gNil,gSub,aa',ab',T_bind,T_ok,ba',bb',bc',T_ite,ST_nx,ST_ret,ac',ad',ae',af',ag',if_true,if_false,ah']
    rw [ec]
    simp only [List.nil_append, eps, sumZ, I.sum, ne_int, decide_true, len_ziL, sFor, Mm.iRng1, int1, if_pos hlim1, if_pos hlim10, Int.toNat_natCast, sSeq,ST_seq,sAsg,sPar,sExpr,sIf,sRet,sRetN,sNx,ST_bindS,eMeth,eArgs,aCons,aNil,eBin,eUn,eC,eVar,eAnd,eOr,eNot,eIf,tVal,tAnd,tOr,tNot,tYes,gName,gTup,gCons,gNil,gSub,aa',ab',T_bind,T_ok,ba',bb',bc',T_ite,ST_nx,ST_ret,ac',ad',ae',af',ag',if_true,if_false,ah']
    refine T_rng (fun _ fs h => ∃ c8 : Option D, fs = [c0, c1, c2, some (.loc 1), some (.loc 2), some (.int b), some (.int g), some (.l (zi ls)), c8, c9, c10, some (.int x.l), some (.l (zi x.r)), c13] ∧ h = hk6 ws ho ds) ⟨_, rfl, rfl⟩ ?_ ?_
    · rintro k hk fs h ⟨c8, rfl, rfl⟩
      simp only [sSeq,ST_seq,sAsg,sPar,sExpr,sIf,sRet,sRetN,sNx,ST_bindS,eMeth,eArgs,aCons,aNil,eBin,eUn,eC,eVar,eAnd,eOr,eNot,eIf,tVal,tAnd,tOr,tNot,tYes,gName,gTup,gCons,gNil,gSub,aa',ab',T_bind,T_ok,ba',bb',bc',T_ite,ST_nx,ST_ret,ac',ad',ae',af',ag',if_true,if_false,ah']
      exact at_T hw b0 b1 g0 g1 I X hk ⟨_, rfl, rfl⟩
    · rintro fs h ⟨c8, rfl, rfl⟩
      refine T_rng (fun _ fs h => ∃ c9 c13 : Option D, fs = [c0, c1, c2, some (.loc 1), some (.loc 2), some (.int b), some (.int g), some (.l (zi ls)), c8, c9, c10, some (.int x.l), some (.l (zi x.r)), c13] ∧ h = hk6 ws ho ds) ⟨_, _, rfl, rfl⟩ ?_ ?_
      · rintro t ht fs h ⟨c9, c13, rfl, rfl⟩
        simp only [sSeq,ST_seq,sAsg,sPar,sExpr,sIf,sRet,sRetN,sNx,ST_bindS,eMeth,eArgs,aCons,aNil,eBin,eUn,eC,eVar,eAnd,eOr,eNot,eIf,tVal,tAnd,tOr,tNot,tYes,gName,gTup,gCons,gNil,gSub,aa',ab',T_bind,T_ok,ba',bb',bc',T_ite,ST_nx,ST_ret,ac',ad',ae',af',ag',if_true,if_false,ah']
        exact third_T hw b0 b1 g0 g1 X ht fun c13 => ⟨_, _, rfl, rfl⟩
      · rintro fs h ⟨c9, c13, rfl, rfl⟩
        exact hN _ _ _ _ _ _ _
end
theorem loopK {ws : List Wy} {ds : List Int} {c0 c1 c2 c5 c6 c7 c8 c9 c10 c11 c12 c13 : Option D} (hw : WaysOk ws) : LoopK 2 (tab ws 100) 5 6 body_law_4 [c0, c1, c2, some (.loc 1), some (.loc 2), c5, c6, c7, c8, c9, c10, c11, c12, c13] [.lst (zi ds), .dt (lossKv ws), .dt (tab ws 100)] := by
  intro ho
  have h := forK_T (n := 2) (o := .lt (tab ws 100) ho) (j1 := 5) (j2 := 6) (body := body_law_4) (h := hk6 ws ho ds) (fun fs => ∃ c5 c6 c7 c8 c9 c10 c11 c12 c13 : Option D, fs = [c0, c1, c2, some (.loc 1), some (.loc 2), c5, c6, c7, c8, c9, c10, c11, c12, c13]) rfl ((tab ws 100).map (·.1)) [c0, c1, c2, some (.loc 1), some (.loc 2), c5, c6, c7, c8, c9, c10, c11, c12, c13] ⟨_, _, _, _, _, _, _, _, _, rfl⟩ fun k hk => by
    obtain ⟨a, c, rfl, a0, a1, c0', c1'⟩ := tab_key hk
    refine ⟨_, _, rfl, ?_⟩
    rintro fs ⟨c5, c6, c7, c8, c9, c10, c11, c12, c13, rfl⟩
    exact key_T hw a0 a1 c0' c1' fun c7 c8 c9 c10 c11 c12 c13 => ⟨⟨_, _, _, _, _, _, _, _, _, rfl⟩, rfl⟩
  obtain ⟨fs', e, c5, c6, c7, c8, c9, c10, c11, c12, c13, rfl⟩ := h
  exact ⟨_, e, rfl⟩
theorem tab_len (ws : List Wy) (n : Nat) : (tab ws n).length = n := by unfold tab; simp
theorem pure_law (ns : List Int) (hn : ns.length ≤ 63) : ∃ hs', c_law [.rl (zi ns)] [] = .ok (.bl true) hs' := by
  suffices H : (c_law [.rl (zi ns)] []).T fun d _ => d = .bl true by
    obtain ⟨d, h', e, rfl⟩ := H.eq
    exact ⟨h', e⟩
  refine T_call0 rfl ?_
  have hlim10 : -lim ≤ (10 : Int) ∧ (10 : Int) ≤ lim := by unfold lim; omega
  have z2 : ∀ a b : D, ([a, b] : List D).length ≤ 100000 := fun _ _ => by simp
  simp only [m_law, start,al',am',an',ao',List.replicate,aq',ar', eSl, oNone, oSome, sSeq,ST_seq,sAsg,sPar,sExpr,sIf,sRet,sRetN,sNx,ST_bindS,eMeth,eArgs,aCons,aNil,eBin,eUn,eC,eVar,eAnd,eOr,eNot,eIf,tVal,tAnd,tOr,tNot,tYes,gName,gTup,gCons,gNil,gSub,aa',ab',T_bind,T_ok,ba',bb',bc',T_ite,ST_nx,ST_ret,ac',ad',ae',af',ag',if_true,if_false,ah']
  refine dice_T hn fun ds hd => ?_
  refine ways_T hd fun ws ds2 hw hd2 => ?_
  have hwl := hw.len
  have ec : ∀ (hs : Hs), lcL none (Mm.gName 10) tYes (eArgs vTup (aCons (eSl vSl (eVar 10) oNone (oSome (eC (.int 2)))) (aCons (eBin vIx (eVar 10) (eC (.int 2))) aNil))) (wipe [some (.rl (zi ns)), some (.loc 0), some (.l (ws.map wyD)), none, none, none, none, none, none, none, none, none, none, none] [10]) (ws.map wyD) [] hs = .ok ([] ++ ((ws.map wyD).filter fun _ => true).map fun d => match d with
      | .t (a :: b :: c :: _) => .t [.t [a, b], c]
      | d => d) hs := fun hs => by
    refine lc_eq (k := none) (hs := hs) (fun _ => true) (fun d => match d with
      | .t (a :: b :: c :: _) => .t [.t [a, b], c]
      | d => d) trivial _ [] (fun x hx => ?_) (by simp; omega)
    obtain ⟨w, hw1, rfl⟩ := List.mem_map.mp hx
    refine ⟨[some (.rl (zi ns)), some (.loc 0), some (.l (ws.map wyD)), none, none, none, none, none, none, none, some (wyD w), none, none, none], rfl, rfl, fun _ => ?_⟩
    have e1 : ∀ h, vSl (wyD w) none (some 2) h = .ok (.t [.int w.a, .int w.b]) h := fun _ => rfl
    have e2 : ∀ h, vIx (wyD w) (.int 2) h = .ok (.int w.l) h := fun _ => rfl
    simp only [eSl, oNone, oSome, e1, e2, vTup, z2, sSeq,ST_seq,sAsg,sPar,sExpr,sIf,sRet,sRetN,sNx,ST_bindS,eMeth,eArgs,aCons,aNil,eBin,eUn,eC,eVar,eAnd,eOr,eNot,eIf,tVal,tAnd,tOr,tNot,tYes,gName,gTup,gCons,gNil,gSub,aa',ab',T_bind,T_ok,ba',bb',bc',T_ite,ST_nx,ST_ret,ac',ad',ae',af',ag',if_true,if_false,ah']
    rfl
  have ep : (((ws.map wyD).filter fun _ => true).map fun d => match d with
      | .t (a :: b :: c :: _) => D.t [.t [a, b], c]
      | d => d) = ws.map fun w => D.t [.t [.int w.a, .int w.b], .int w.l] := by
    rw [List.filter_eq_self.mpr (fun _ _ => rfl), List.map_map]
    rfl
  have ed : ∀ hs : Hs, vDictT [.l (ws.map fun w => D.t [.t [.int w.a, .int w.b], .int w.l])] hs = .ok (.loc hs.length) (hs ++ [.dt (lossKv ws)]) := fun hs => by
    have e1 : (listOf (.l (ws.map fun w => D.t [.t [.int w.a, .int w.b], .int w.l])) hs).bind prsOfT = some (lossKv ws) := prs_loss ws
    have e2 : dmergeT [] (lossKv ws) = lossKv ws := by rw [dmergeT_new (by simpa using loss_nd hw.nd)]; rfl
    unfold vDictT
    simp only [one1, e1, e2]
  simp only [eLc, iSeq, onlyL, sSeq,ST_seq,sAsg,sPar,sExpr,sIf,sRet,sRetN,sNx,ST_bindS,eMeth,eArgs,aCons,aNil,eBin,eUn,eC,eVar,eAnd,eOr,eNot,eIf,tVal,tAnd,tOr,tNot,tYes,gName,gTup,gCons,gNil,gSub,aa',ab',T_bind,T_ok,ba',bb',bc',T_ite,ST_nx,ST_ret,ac',ad',ae',af',ag',if_true,if_false,ah']
  rw [ec]
  simp only [List.nil_append, ep, ed, eDt, sFor, Mm.iRng1, int1, if_pos hlim10, sSeq,ST_seq,sAsg,sPar,sExpr,sIf,sRet,sRetN,sNx,ST_bindS,eMeth,eArgs,aCons,aNil,eBin,eUn,eC,eVar,eAnd,eOr,eNot,eIf,tVal,tAnd,tOr,tNot,tYes,gName,gTup,gCons,gNil,gSub,aa',ab',T_bind,T_ok,ba',bb',bc',T_ite,ST_nx,ST_ret,ac',ad',ae',af',ag',if_true,if_false,ah']
  refine T_rng (fun b fs h => ∃ (c5 c6 c7 c8 c9 c10 c11 c12 c13 : Option D), fs = [some (.rl (zi ns)), some (.loc 0), some (.l (ws.map wyD)), some (.loc 1), some (.loc 2), c5, c6, c7, c8, c9, c10, c11, c12, c13] ∧ h = [.lst (zi ds2), .dt (lossKv ws), .dt (tab ws (10 * b))]) ⟨_, _, _, _, _, _, _, _, _, rfl, rfl⟩ ?_ ?_
  · rintro b hb fs h ⟨c5, c6, c7, c8, c9, c10, c11, c12, c13, rfl, rfl⟩
    have hb' : b < 10 := hb
    simp only [body_law_1, sFor, Mm.iRng1, int1, if_pos hlim10, sSeq,ST_seq,sAsg,sPar,sExpr,sIf,sRet,sRetN,sNx,ST_bindS,eMeth,eArgs,aCons,aNil,eBin,eUn,eC,eVar,eAnd,eOr,eNot,eIf,tVal,tAnd,tOr,tNot,tYes,gName,gTup,gCons,gNil,gSub,aa',ab',T_bind,T_ok,ba',bb',bc',T_ite,ST_nx,ST_ret,ac',ad',ae',af',ag',if_true,if_false,ah']
    refine T_rng (fun g fs h => ∃ (c6 : Option D), fs = [some (.rl (zi ns)), some (.loc 0), some (.l (ws.map wyD)), some (.loc 1), some (.loc 2), some (.int (b : Nat)), c6, c7, c8, c9, c10, c11, c12, c13] ∧ h = [.lst (zi ds2), .dt (lossKv ws), .dt (tab ws (10 * b + g))]) ⟨_, rfl, rfl⟩ ?_ ?_
    · rintro g hg fs h ⟨c6, rfl, rfl⟩
      have hg' : g < 10 := hg
      have es : setIx (.loc 2) (.t [.int (b : Nat), .int (g : Nat)]) (bwD (bestR ws (b : Nat) (g : Nat))) [.lst (zi ds2), .dt (lossKv ws), .dt (tab ws (10 * b + g))] = .ok () [.lst (zi ds2), .dt (lossKv ws), .dt (tab ws (10 * b + g + 1))] := by
        have k1 : (((10 * b + g) / 10 : Nat) : Int) = b := by omega
        have k2 : (((10 * b + g) % 10 : Nat) : Int) = g := by omega
        have e1 : dput (tab ws (10 * b + g)) (kk2 (b : Nat) (g : Nat)) (bwD (bestR ws (b : Nat) (g : Nat))) = tab ws (10 * b + g + 1) := by
          have hno := tab_no (ws := ws) (Nat.le_refl (10 * b + g))
          rw [k1, k2] at hno
          rw [dputK_new hno, tab_succ, k1, k2]
        have e2 : keysOf (.t [.int (b : Nat), .int (g : Nat)]) = some (kk2 (b : Nat) (g : Nat)) := rfl
        unfold setIx
        simp only [List.getElem?_cons_zero, List.getElem?_cons_succ, e2, e1]
        rw [if_pos (by rw [tab_len]; omega)]
        rfl
      simp only [body_law_0, bestWay_eq hw (by omega : (0 : Int) ≤ (b : Nat)) (by omega : ((b : Nat) : Int) < 10) (by omega : (0 : Int) ≤ (g : Nat)) (by omega : ((g : Nat) : Int) < 10), vTup, z2, es, sSeq,ST_seq,sAsg,sPar,sExpr,sIf,sRet,sRetN,sNx,ST_bindS,eMeth,eArgs,aCons,aNil,eBin,eUn,eC,eVar,eAnd,eOr,eNot,eIf,tVal,tAnd,tOr,tNot,tYes,gName,gTup,gCons,gNil,gSub,aa',ab',T_bind,T_ok,ba',bb',bc',T_ite,ST_nx,ST_ret,ac',ad',ae',af',ag',if_true,if_false,ah']
      exact ⟨_, rfl, rfl⟩
    · rintro fs h ⟨c6, rfl, rfl⟩
      exact ⟨_, _, _, _, _, _, _, _, _, rfl, rfl⟩
  · rintro fs h ⟨c5, c6, c7, c8, c9, c10, c11, c12, c13, rfl, rfl⟩
    have eF : sForDT 4 5 6 body_law_4 [some (.rl (zi ns)), some (.loc 0), some (.l (ws.map wyD)), some (.loc 1), some (.loc 2), c5, c6, c7, c8, c9, c10, c11, c12, c13] [.lst (zi ds2), .dt (lossKv ws), .dt (tab ws (10 * 10))] = .nx (List.replicate 14 none) [.lst (zi ds2), .dt (lossKv ws), .dt (tab ws (10 * 10))] := by
      unfold sForDT
      simp only [List.getElem?_cons_zero, List.getElem?_cons_succ]
      rw [if_pos (loopK hw)]
      rfl
    rw [show (Int.toNat 10) = 10 from rfl, eF]
    exact ⟨_, rfl, rfl, trivial⟩
end Mm
open PySem PySem.W PySem.Calls PyProof.Rows
theorem PySem.Challenge.cw_clipformats_k06_whole_best_routes_hang_t_holds : PySem.Challenge.rw_clipformats_k06_whole_best_routes_hang_t.Holds := by
  w_on; o_law
  refine HandSHeadRun.head_any (r := OpenLaw.row PySem.Challenge.rw_clipformats_k06_whole_best_routes_hang_t) (q := view (OpenLaw.row PySem.Challenge.rw_clipformats_k06_whole_best_routes_hang_t).prog [20]) (H := Mm.hk) (ob := Mm.ob) (M := 4000) (loose := Mm.names) (d := HandSHeadRun.topDef (OpenLaw.row PySem.Challenge.rw_clipformats_k06_whole_best_routes_hang_t).prog 20) (kwd := []) Mm.ob_eq
    (by kernel_rfl) (fun s => by kernel_rfl) Mm.run (by kernel_rfl) (by kernel_rfl) (by kernel_rfl) (by rfl) (by first | assumption | decide +kernel) (by decide +kernel) ⟨rfl, rfl, rfl, rfl, rfl, by decide +kernel⟩ ?hw ?hc
  case hw => w_witness2
  case hc =>
    refine L2.walk_ofE (l := PySem.Challenge.rw_clipformats_k06_whole_best_routes_hang_t) (n := 63) (k := 6) (x := "_law_script") (CX := L2.CX0) rfl (by decide) (by kernel_rfl) ⟨rfl, by decide, by decide⟩ ?F (fun _ _ _ _ z => z)
    intro w mg fa h Y G hmg0
    obtain ⟨K, KX, c⟩ := Y
    have hmg : mg ("law" : PySem.Str) = some (.ref fa) := by
      have e : (HandSHeadRun.topDef (OpenLaw.row PySem.Challenge.rw_clipformats_k06_whole_best_routes_hang_t).prog 20).name = ("law" : PySem.Str) := by kernel_rfl
      rw [← e]
      exact hmg0
    have Y : Nonempty (Mm.Fx mg K) := ⟨Mm.facts KX G c⟩
    obtain ⟨Y⟩ := Y
    cases Mm.ga_inj hmg Y.g_law
    refine ⟨K, Y.f_law, Mm.spTrue K 63, KX, fun s v => L2.FunD.bindsA (ps := ["_law_script"]) Y.F_law (fun _ _ _ _ _ _ us hl => match us, hl with | [_], _ => rfl) s [v] rfl, fun H a ns hl _ hS => ⟨a, ns, rfl, hS, hl, fun _ => rfl⟩, fun base _ _ => ?_⟩
    exact (Mm.calm_ok (Mm.ok_law Y)).imp fun vs H Q E q => Mm.true_sp (c := Mm.ct K) Mm.pure_law q
