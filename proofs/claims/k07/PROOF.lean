import PyProof.Rows.All
import Wide.All
import OpenK.AllK
import Wide.FinOn
import HandS.ForMost
import HandS.Exc
import HandS.ExcOwn
import HandS.WordsExc
import HandS.Wide
import HandS.Walk
import HandS.Zip
import HandS.Style
import HandS.TupAny
import HandS.CallSlots
import HandS.Deep
import HandS.TupMul
import KE.GoesEnum
import HandS.Defaults
import HandS.IsInst
import HandS.TupSets
import HandS.Keys
import HandS.TryOnly
import HandS.TupLe
import KE.KTupSum
import KE.SortData
import KE.DataMinMax
import KE.DataFind
import HandS.Lambda
import HandS.EndOwn
import KE.KDflt
import HandS.TryMany
import HandS.ExcIs
import HandS.Iter
import HandS.ExcInit
import HandS.ExcField
import HandS.ClsMeth
import KE.KExcIs
import HandS.Text
import HandS.SuiteRaise
import HandS.RaiseFrom
import HandS.ExcInitHot
import KE.KAsSuite
import PySem.Challenge.RW_clockworks_k07_suspects_told
set_option Elab.async false
set_option linter.all false
set_option maxRecDepth 100000
set_option maxHeartbeats 1000000
/-! CwSem: what a def of the program tells, as a plain function over data (my own reading; no program in sight). -/
namespace CW
open PySem

/-- a value: data; a thing of the world by its number; a new list that nobody else holds; a list that a slot owns, looked at -/
inductive Vl where
  | dat (d : PyData) | tok (n : Nat) | own (l : List PyData) | lent (l : List PyData)
structure Er where
  cls : Str
  arg : Option Int
inductive R (A G : Type) where
  | ok (a : A) (g : G) | er (e : Er) (g : G) | no
abbrev Env := List (Option Vl)
inductive Out (G : Type) where
  | nx (r : Env) (g : G) | rt (v : Vl) (g : G) | bk (r : Env) (g : G) | ct (r : Env) (g : G) | er (e : Er) (r : Env) (g : G) | no
abbrev ME (G : Type) := Env → G → R Vl G
abbrev MT (G : Type) := Env → G → R Bool G
abbrev MA (G : Type) := Env → G → R (List Vl) G
abbrev MI (G : Type) := Env → G → R (List PyData) G
abbrev MO (G : Type) := Env → G → R (Option Int) G
abbrev MS (G : Type) := Env → G → Out G
abbrev MG := Vl → Env → Option Env

def R.bind {A B G : Type} (x : R A G) (f : A → G → R B G) : R B G := match x with
  | .ok a g => f a g
  | .er e g => .er e g
  | .no => .no
@[simp] theorem R.bind_ok {A B G : Type} (a : A) (g : G) (f : A → G → R B G) : (R.ok a g).bind f = f a g := rfl
@[simp] theorem R.bind_er {A B G : Type} (e : Er) (g : G) (f : A → G → R B G) : (R.er e g : R A G).bind f = .er e g := rfl
@[simp] theorem R.bind_no {A B G : Type} (f : A → G → R B G) : (R.no : R A G).bind f = .no := rfl
def R.out {A G : Type} (x : R A G) (r : Env) (f : A → G → Out G) : Out G := match x with
  | .ok a g => f a g
  | .er e g => .er e r g
  | .no => .no
@[simp] theorem R.out_ok {A G : Type} (a : A) (g : G) (r : Env) (f : A → G → Out G) : (R.ok a g).out r f = f a g := rfl
@[simp] theorem R.out_er {A G : Type} (e : Er) (g : G) (r : Env) (f : A → G → Out G) : (R.er e g : R A G).out r f = .er e r g := rfl
@[simp] theorem R.out_no {A G : Type} (r : Env) (f : A → G → Out G) : (R.no : R A G).out r f = .no := rfl
@[simp] def lift {A G : Type} (o : Option A) (g : G) : R A G := match o with
  | some a => .ok a g
  | none => .no
theorem lift_some {A G : Type} (a : A) (g : G) : lift (some a) g = .ok a g := rfl
theorem lift_none {A G : Type} (g : G) : lift (none : Option A) g = .no := rfl

/-- a bound that nothing unfolds -/
noncomputable def RNG : Int := Classical.choose (⟨100000000, rfl⟩ : ∃ n : Int, n = 100000000)
theorem RNG_eq : RNG = 100000000 := Classical.choose_spec (⟨100000000, rfl⟩ : ∃ n : Int, n = 100000000)
noncomputable def inRng (j : Int) : Bool := decide (-RNG ≤ j) && decide (j ≤ RNG)
@[simp] theorem inRng_iff (j : Int) : (inRng j = true) = (-100000000 ≤ j ∧ j ≤ 100000000) := by
  unfold inRng
  rw [RNG_eq, Bool.and_eq_true, decide_eq_true_eq, decide_eq_true_eq]
section
variable {G : Type}
/-! expressions -/
@[simp] def sV (i : Nat) : ME G := fun r g => match r[i]? with
  | some (some (.own l)) => .ok (.lent l) g
  | some (some v) => .ok v g
  | _ => .no
@[simp] def sC (d : PyData) : ME G := fun _ g => .ok (.dat d) g
@[simp] def sOp (f : Vl → Vl → Option Vl) (a b : ME G) : ME G := fun r g => (a r g).bind fun x g1 => (b r g1).bind fun y g2 => lift (f x y) g2
@[simp] def sUn (f : Vl → Option Vl) (a : ME G) : ME G := fun r g => (a r g).bind fun x g1 => lift (f x) g1
@[simp] def sNil : MA G := fun _ g => .ok [] g
@[simp] def sCons (a : ME G) (t : MA G) : MA G := fun r g => (a r g).bind fun x g1 => (t r g1).bind fun xs g2 => .ok (x :: xs) g2
/-- a value as data: a new list is let go -/
@[simp] def Vl.frz : Vl → Option PyData
  | .dat d => some d
  | .own l => some (.list l)
  | _ => none
@[simp] def frzAll : List Vl → Option (List PyData)
  | [] => some []
  | v :: vs => match v.frz, frzAll vs with
    | some d, some ds => some (d :: ds)
    | _, _ => none
@[simp] def sTup (a : MA G) : ME G := fun r g => (a r g).bind fun vs g1 => match frzAll vs with
  | some ds => if ds.length ≤ 100000 then .ok (.dat (.tuple ds)) g1 else .no
  | none => .no
@[simp] def sLst (a : MA G) : ME G := fun r g => (a r g).bind fun vs g1 => match frzAll vs with
  | some ds => if ds.length ≤ 100000 then .ok (.own ds) g1 else .no
  | none => .no
/-- a call of a plain def -/
@[simp] def sCallP (f : List PyData → R Vl Unit) (a : MA G) : ME G := fun r g => (a r g).bind fun vs g1 => match frzAll vs with
  | some ds => match f ds with
    | .ok v _ => .ok v g1
    | .er e _ => .er e g1
    | .no => .no
  | none => .no
/-- a call of a plain def, n by place, m by name -/
@[simp] def sCallK (f : List PyData → R Vl Unit) (n m : Nat) (a b : MA G) : ME G := fun r g => (a r g).bind fun vs g1 => (b r g1).bind fun zs g2 => match frzAll vs, frzAll zs with
  | some ds, some es => if ds.length = n ∧ es.length = m then (match f (ds ++ es) with
    | .ok v _ => .ok v g2
    | .er e _ => .er e g2
    | .no => .no) else .no
  | _, _ => .no
/-- a call of a def that changes the world -/
@[simp] def sCallW (f : List Vl → G → R Vl G) (a : MA G) : ME G := fun r g => (a r g).bind fun vs g1 => f vs g1
/-- a built-in, by values -/
@[simp] def sB (f : List Vl → Option Vl) (a : MA G) : ME G := fun r g => (a r g).bind fun vs g1 => lift (f vs) g1
/-! tests -/
@[simp] def sTst (a : ME G) : MT G := fun r g => (a r g).bind fun x g1 => match x with
  | .dat (.bool b) => .ok b g1
  | _ => .no
@[simp] def sAnd (t u : MT G) : MT G := fun r g => (t r g).bind fun b g1 => if b then u r g1 else .ok false g1
@[simp] def sOr (t u : MT G) : MT G := fun r g => (t r g).bind fun b g1 => if b then .ok true g1 else u r g1
@[simp] def sNot (t : MT G) : MT G := fun r g => (t r g).bind fun b g1 => .ok (!b) g1
@[simp] def sYes : MT G := fun _ g => .ok true g
@[simp] def sAndV (a b : ME G) : ME G := fun r g => (a r g).bind fun x g1 => match x with
  | .dat (.bool k) => if k then b r g1 else .ok (.dat (.bool false)) g1
  | _ => .no
@[simp] def sOrV (a b : ME G) : ME G := fun r g => (a r g).bind fun x g1 => match x with
  | .dat (.bool k) => if k then .ok (.dat (.bool true)) g1 else b r g1
  | _ => .no
@[simp] def sNotV (a : ME G) : ME G := fun r g => (a r g).bind fun x g1 => match x with
  | .dat (.bool k) => .ok (.dat (.bool (!k))) g1
  | _ => .no
@[simp] def sIf (t : MT G) (a b : ME G) : ME G := fun r g => (t r g).bind fun c g1 => if c then a r g1 else b r g1
/-- a < b < c -/
@[simp] def sChain (f f' : Vl → Vl → Option Vl) (a b c : ME G) : ME G := fun r g => (a r g).bind fun x g1 => (b r g1).bind fun y g2 => match f x y with
  | some (.dat (.bool k)) => if k then (c r g2).bind fun z g3 => lift (f' y z) g3 else .ok (.dat (.bool false)) g2
  | _ => .no
/-! slices -/
@[simp] def sNoPart : MO G := fun _ g => .ok none g
@[simp] def sPart (a : ME G) : MO G := fun r g => (a r g).bind fun x g1 => match x with
  | .dat (.int i) => .ok (some i) g1
  | _ => .no
@[simp] def sSl (f : Vl → Option Int → Option Int → Option Vl) (e : ME G) (lo hi : MO G) : ME G := fun r g => (e r g).bind fun x g1 => (lo r g1).bind fun l g2 => (hi r g2).bind fun u g3 => lift (f x l u) g3
/-! what is walked -/
/-- the items of a thing that stands: data alone -/
@[simp] def datSeq : Vl → Option (List PyData)
  | .dat (.list l) => some l
  | .dat (.tuple l) => some l
  | .own l => some l
  | _ => none
@[simp] def iSeq (e : ME G) : MI G := fun r g => (e r g).bind fun x g1 => lift (datSeq x) g1
def rngL (a : Int) (n : Nat) : List PyData := (List.range n).map fun i => .int (a + (i : Nat))
@[simp] noncomputable def iRng1 (e : ME G) : MI G := fun r g => (e r g).bind fun x g1 => match x with
  | .dat (.int j) => if inRng j = true then .ok (rngL 0 j.toNat) g1 else .no
  | _ => .no
@[simp] noncomputable def iRng2 (e e2 : ME G) : MI G := fun r g => (e r g).bind fun x g1 => (e2 r g1).bind fun y g2 => match x, y with
  | .dat (.int i), .dat (.int j) => if inRng i = true ∧ inRng j = true then .ok (rngL i (j - i).toNat) g2 else .no
  | _, _ => .no
@[simp] def enumL (k : Nat) : List PyData → List PyData
  | [] => []
  | d :: ds => .tuple [.int (k : Nat), d] :: enumL (k + 1) ds
@[simp] def iEnum (e : ME G) : MI G := fun r g => (e r g).bind fun x g1 => match datSeq x with
  | some l => .ok (enumL 0 l) g1
  | none => .no
@[simp] def zipL : List PyData → List PyData → List PyData
  | a :: as, b :: bs => .tuple [a, b] :: zipL as bs
  | _, _ => []
@[simp] def iZip (e e2 : ME G) : MI G := fun r g => (e r g).bind fun x g1 => (e2 r g1).bind fun y g2 => match datSeq x, datSeq y with
  | some l, some m => .ok (zipL l m) g2
  | _, _ => .no
def signs (z : Str) : List PyData := z.cps.toList.map fun c => .str ⟨#[c]⟩
@[simp] def iStr (e : ME G) : MI G := fun r g => (e r g).bind fun x g1 => match x with
  | .dat (.str z) => .ok (signs z) g1
  | _ => .no
/-! targets -/
@[simp] def gN (i : Nat) : MG := fun v r => match v with
  | .lent _ => none
  | _ => some (r.set i (some v))
@[simp] def gS : List MG → List PyData → Env → Option Env
  | [], [], r => some r
  | t :: ts, d :: ds, r => match t (.dat d) r with
    | some r' => gS ts ds r'
    | none => none
  | _, _, _ => none
@[simp] def gT (ts : List MG) : MG := fun v r => match v with
  | .dat (.tuple ds) => gS ts ds r
  | .dat (.list ds) => gS ts ds r
  | .own ds => gS ts ds r
  | _ => none
/-! comprehensions -/
@[simp] def wipe (r : Env) : List Nat → Env
  | [] => r
  | v :: vs => (wipe r vs).set v none
def lcGo (r : Env) (tg : MG) (tt : MT G) (e : ME G) : List PyData → List PyData → G → R (List PyData) G
  | [], acc, g => .ok acc g
  | x :: xs, acc, g => match tg (.dat x) r with
    | none => .no
    | some r' => match tt r' g with
      | .ok true g1 => (match e r' g1 with
        | .ok v g2 => (match v.frz with
          | some d => lcGo r tg tt e xs (acc ++ [d]) g2
          | none => .no)
        | _ => .no)
      | .ok false g1 => lcGo r tg tt e xs acc g1
      | _ => .no
@[simp] def sLc (it : MI G) (tg : MG) (tt : MT G) (e : ME G) (vs : List Nat) : ME G := fun r g => (it r g).bind fun items g1 =>
  if items.length ≤ 1000000 then (match lcGo (wipe r vs) tg tt e items [] g1 with
    | .ok acc g2 => .ok (.own acc) g2
    | _ => .no) else .no
/-- [e for i in it for tg1 in it1] -/
def lcGo2 (r : Env) (i : Nat) (it1 : MI G) (tg1 : MG) (vs1 : List Nat) (e : ME G) : List PyData → List PyData → G → R (List PyData) G
  | [], acc, g => .ok acc g
  | x :: xs, acc, g => match it1 (r.set i (some (.dat x))) g with
    | .ok items g1 => (match lcGo (wipe (r.set i (some (.dat x))) vs1) tg1 sYes e items acc g1 with
      | .ok acc' g2 => lcGo2 r i it1 tg1 vs1 e xs acc' g2
      | _ => .no)
    | _ => .no
@[simp] def sLc2 (it : MI G) (i : Nat) (it1 : MI G) (tg1 : MG) (e : ME G) (vs vs1 : List Nat) : ME G := fun r g => (it r g).bind fun items g1 =>
  if items.length ≤ 1000000 then (match lcGo2 (wipe r vs) i it1 tg1 vs1 e items [] g1 with
    | .ok acc g2 => if acc.length ≤ 1000000 then .ok (.own acc) g2 else .no
    | _ => .no) else .no
/-! statements -/
@[simp] def sNext : MS G := fun r g => .nx r g
@[simp] def sBrk : MS G := fun r g => .bk r g
@[simp] def sCnt : MS G := fun r g => .ct r g
@[simp] def sPar3 (i j k : Nat) (a : MA G) : MS G := fun r g => (a r g).out r fun vs g1 => match vs with
  | [u, v, w] => (match u, v, w with
    | .lent _, _, _ => .no
    | _, .lent _, _ => .no
    | _, _, .lent _ => .no
    | u, v, w => .nx (((r.set i (some u)).set j (some v)).set k (some w)) g1)
  | _ => .no
@[simp] def sNever : MS G := fun _ _ => .no
@[simp] def sSeq (a b : MS G) : MS G := fun r g => match a r g with
  | .nx r1 g1 => b r1 g1
  | o => o
@[simp] def sAsg (e : ME G) (t : MG) : MS G := fun r g => (e r g).out r fun v g1 => match t v r with
  | some r' => .nx r' g1
  | none => .no
@[simp] def sPar (i j : Nat) (a : MA G) : MS G := fun r g => (a r g).out r fun vs g1 => match vs with
  | [.lent _, _] => .no
  | [_, .lent _] => .no
  | [v, w] => .nx ((r.set i (some v)).set j (some w)) g1
  | _ => .no
@[simp] def sDrop (e : ME G) : MS G := fun r g => (e r g).out r fun _ g1 => .nx r g1
/-- the value is given out; a slot's own list by its name alone -/
@[simp] def sRet (e : ME G) : MS G := fun r g => (e r g).out r fun v g1 => match v with
  | .lent _ => .no
  | v => .rt v g1
@[simp] def sRetV (i : Nat) : MS G := fun r g => match r[i]? with
  | some (some v) => .rt v g
  | _ => .no
@[simp] def sRetN : MS G := fun _ g => .rt (.dat .none) g
@[simp] def sIfS (t : MT G) (a b : MS G) : MS G := fun r g => (t r g).out r fun c g1 => if c then a r g1 else b r g1
def forGo (tg : MG) (b : MS G) : List PyData → Env → G → Out G
  | [], r, g => .nx r g
  | x :: xs, r, g => match tg (.dat x) r with
    | none => .no
    | some r' => match b r' g with
      | .nx r1 g1 => forGo tg b xs r1 g1
      | .ct r1 g1 => forGo tg b xs r1 g1
      | .bk r1 g1 => .nx r1 g1
      | o => o
@[simp] def sFor (it : MI G) (tg : MG) (b : MS G) : MS G := fun r g => (it r g).out r fun items g1 => forGo tg b items r g1
def whileGo (t : MT G) (b : MS G) : Nat → Env → G → Out G
  | 0, _, _ => .no
  | n + 1, r, g => (t r g).out r fun c g1 => if c then (match b r g1 with
      | .nx r1 g2 => whileGo t b n r1 g2
      | .ct r1 g2 => whileGo t b n r1 g2
      | .bk r1 g2 => .nx r1 g2
      | o => o) else .nx r g1
/-- a great number that nothing unfolds -/
noncomputable def FUEL : Nat := Classical.choose (⟨100000000, rfl⟩ : ∃ n : Nat, n = 100000000)
theorem FUEL_eq : FUEL = 100000000 := Classical.choose_spec (⟨100000000, rfl⟩ : ∃ n : Nat, n = 100000000)
noncomputable def sWhile (t : MT G) (b : MS G) : MS G := fun r g => whileGo t b FUEL r g
/-- x op= e -/
@[simp] def sAug (i : Nat) (f : Vl → Vl → Option Vl) (e : ME G) : MS G := fun r g => match r[i]? with
  | some (some x) => (e r g).out r fun y g1 => match f x y with
    | some (.lent _) => .no
    | some v => .nx (r.set i (some v)) g1
    | none => .no
  | _ => .no
/-- x.append(e), x a slot that owns its list -/
@[simp] def sApp (i : Nat) (e : ME G) : MS G := fun r g => match r[i]? with
  | some (some (.own l)) => (e r g).out r fun v g1 => match v.frz with
    | some d => if l.length < 100000 then .nx (r.set i (some (.own (l ++ [d])))) g1 else .no
    | none => .no
  | _ => .no
/-- x[e1] = e2, x a slot that owns its list -/
def atN (n : Nat) (i : Int) : Option Nat := if 0 ≤ i then (if i < n then some i.toNat else none) else if -(n : Int) ≤ i then some (i + n).toNat else none
@[simp] def sSetIx (i : Nat) (e1 e2 : ME G) : MS G := fun r g => match r[i]? with
  | some (some (.own l)) => (e2 r g).out r fun v g1 => match v with
    | .dat d => (e1 r g1).out r fun k g2 => (match k with
      | .dat (.int j) => (match atN l.length j with
        | some n => .nx (r.set i (some (.own (l.set n d)))) g2
        | none => .no)
      | _ => .no)
    | _ => .no
  | _ => .no
/-- before a statement: the slots' lists are let go -/
@[simp] def frzAt (r : Env) (i : Nat) : Env := match r[i]? with
  | some (some (.own l)) => r.set i (some (.dat (.list l)))
  | _ => r
@[simp] def sFrz (is : List Nat) (b : MS G) : MS G := fun r g => b (is.foldl frzAt r) g
end

/-! operators by values -/
/-- great numbers that nothing unfolds -/
noncomputable def BIG : Int := Classical.choose (⟨1000000000000000000000000000000000000000000000000, rfl⟩ : ∃ n : Int, n = 1000000000000000000000000000000000000000000000000)
theorem BIG_eq : BIG = 1000000000000000000000000000000000000000000000000 := Classical.choose_spec (⟨1000000000000000000000000000000000000000000000000, rfl⟩ : ∃ n : Int, n = 1000000000000000000000000000000000000000000000000)
noncomputable def BIGW : Int := Classical.choose (⟨9000000000000000000, rfl⟩ : ∃ n : Int, n = 9000000000000000000)
theorem BIGW_eq : BIGW = 9000000000000000000 := Classical.choose_spec (⟨9000000000000000000, rfl⟩ : ∃ n : Int, n = 9000000000000000000)
noncomputable def small (a : Int) : Bool := decide (-BIG < a) && decide (a < BIG)
/-- the items of a list or a tuple, whoever holds it -/
@[simp] def Vl.lst? : Vl → Option (List PyData)
  | .dat (.list l) => some l
  | .own l => some l
  | .lent l => some l
  | _ => none
@[simp] def Vl.tup? : Vl → Option (List PyData)
  | .dat (.tuple l) => some l
  | _ => none
@[simp] def Vl.seq? (v : Vl) : Option (List PyData) := match v.lst? with
  | some l => some l
  | none => v.tup?
/-- as data, only looked at -/
@[simp] def Vl.look : Vl → Option PyData
  | .dat d => some d
  | .own l => some (.list l)
  | .lent l => some (.list l)
  | .tok _ => none
@[simp] def oAdd : Vl → Vl → Option Vl
  | .dat (.int a), .dat (.int b) => some (.dat (.int (a + b)))
  | .dat (.str a), .dat (.str b) => if a.length + b.length ≤ 100000 then some (.dat (.str (a ++ b))) else none
  | .dat (.tuple a), .dat (.tuple b) => if a.length + b.length ≤ 100000 then some (.dat (.tuple (a ++ b))) else none
  | x, y => match x.lst?, y.lst? with
    | some a, some b => if a.length + b.length ≤ 100000 then some (.own (a ++ b)) else none
    | _, _ => none
@[simp] def oAddI : Vl → Vl → Option Vl
  | .dat (.int a), .dat (.int b) => some (.dat (.int (a + b)))
  | _, _ => none
@[simp] def oSub : Vl → Vl → Option Vl
  | .dat (.int a), .dat (.int b) => some (.dat (.int (a - b)))
  | _, _ => none
def repL (l : List PyData) (k : Int) : List PyData := (List.replicate k.toNat l).flatten
@[simp] noncomputable def oMul : Vl → Vl → Option Vl
  | .dat (.int a), .dat (.int b) => if small a && small b then some (.dat (.int (a * b))) else none
  | .dat (.tuple l), .dat (.int k) => if l ≠ [] ∧ 2 ≤ k ∧ k ≤ 1000 ∧ l.length ≤ 1000 then some (.dat (.tuple (repL l k))) else none
  | .own l, .dat (.int k) => if l.length * k.toNat ≤ 100000 ∧ -BIGW ≤ k ∧ k < BIGW then some (.own (repL l k)) else none
  | _, _ => none
@[simp] noncomputable def oDiv : Vl → Vl → Option Vl
  | .dat (.int a), .dat (.int b) => if 0 < b ∧ b < BIG then some (.dat (.int (a / b))) else none
  | _, _ => none
@[simp] def oMod : Vl → Vl → Option Vl
  | .dat (.int a), .dat (.int b) => if 0 < b then some (.dat (.int (a % b))) else none
  | _, _ => none
@[simp] def oLt : Vl → Vl → Option Vl
  | .dat (.int a), .dat (.int b) => some (.dat (.bool (decide (a < b))))
  | _, _ => none
@[simp] def oLe : Vl → Vl → Option Vl
  | .dat (.int a), .dat (.int b) => some (.dat (.bool (decide (a ≤ b))))
  | .dat (.tuple [.int a, .int b]), .dat (.tuple [.int c, .int d]) => some (.dat (.bool (if a = c then decide (b ≤ d) else decide (a ≤ c))))
  | _, _ => none
@[simp] def oGt : Vl → Vl → Option Vl
  | .dat (.int a), .dat (.int b) => some (.dat (.bool (decide (b < a))))
  | _, _ => none
@[simp] def oGe : Vl → Vl → Option Vl
  | .dat (.int a), .dat (.int b) => some (.dat (.bool (decide (b ≤ a))))
  | _, _ => none
@[simp] def oNeg : Vl → Option Vl
  | .dat (.int a) => some (.dat (.int (-a)))
  | _ => none
def atI (l : List PyData) (i : Int) : Option PyData := (atN l.length i).bind fun j => l[j]?
@[simp] def oIx : Vl → Vl → Option Vl
  | .dat (.str z), .dat (.int i) => if 0 ≤ i ∧ z.length ≤ 100000 then (z.cps.toList[i.toNat]?).map fun c => .dat (.str ⟨#[c]⟩) else none
  | x, .dat (.int i) => match x.seq? with
    | some l => (atI l i).map Vl.dat
    | none => none
  | _, _ => none

/-! comparison of data -/
mutual
def deq : PyData → PyData → Bool
  | .none, .none => true
  | .bool a, .bool b => a == b
  | .bool a, .int j => (if a then 1 else 0) == j
  | .int i, .bool b => i == (if b then 1 else 0)
  | .int i, .int j => i == j
  | .str x, .str y => x == y
  | .list xs, .list ys => deqs xs ys
  | .tuple xs, .tuple ys => deqs xs ys
  | _, _ => false
def deqs : List PyData → List PyData → Bool
  | [], [] => true
  | x :: xs, y :: ys => deq x y && deqs xs ys
  | _, _ => false
end
@[simp] theorem deq_ii (i j : Int) : deq (.int i) (.int j) = (i == j) := by simp only [deq]
@[simp] theorem deq_bb (i j : Bool) : deq (.bool i) (.bool j) = (i == j) := by simp only [deq]
@[simp] theorem deq_ss (i j : Str) : deq (.str i) (.str j) = (i == j) := by simp only [deq]
@[simp] theorem deq_nn : deq .none .none = true := by simp only [deq]
@[simp] theorem deq_ll (l m : List PyData) : deq (.list l) (.list m) = deqs l m := by simp only [deq]
@[simp] theorem deq_tt (l m : List PyData) : deq (.tuple l) (.tuple m) = deqs l m := by simp only [deq]
@[simp] theorem deqs_nil : deqs [] [] = true := by simp only [deqs]
@[simp] theorem deqs_nc (x : PyData) (l : List PyData) : deqs [] (x :: l) = false := by simp only [deqs]
@[simp] theorem deqs_cn (x : PyData) (l : List PyData) : deqs (x :: l) [] = false := by simp only [deqs]
@[simp] theorem deqs_cc (x y : PyData) (l m : List PyData) : deqs (x :: l) (y :: m) = (deq x y && deqs l m) := by simp only [deqs]
@[simp] theorem deq_in (i : Int) : deq (.int i) .none = false := by simp only [deq]
@[simp] theorem deq_ni (i : Int) : deq .none (.int i) = false := by simp only [deq]
@[simp] theorem deq_tn (l : List PyData) : deq (.tuple l) .none = false := by simp only [deq]
@[simp] theorem deq_nt (l : List PyData) : deq .none (.tuple l) = false := by simp only [deq]
@[simp] theorem deq_ln (l : List PyData) : deq (.list l) .none = false := by simp only [deq]
@[simp] theorem deq_nl (l : List PyData) : deq .none (.list l) = false := by simp only [deq]
@[simp] theorem deq_lt (l m : List PyData) : deq (.list l) (.tuple m) = false := by simp only [deq]
@[simp] theorem deq_tl (l m : List PyData) : deq (.tuple l) (.list m) = false := by simp only [deq]
@[simp] theorem deq_bi (b : Bool) (j : Int) : deq (.bool b) (.int j) = ((if b then 1 else 0) == j) := by simp only [deq]
@[simp] theorem deq_ib (b : Bool) (j : Int) : deq (.int j) (.bool b) = (j == (if b then 1 else 0)) := by simp only [deq]
def sok (x : Str) : Bool := x.cps.all (· < 0x110000)
mutual
@[simp] def shp : Nat → PyData → Bool
  | _, .none => true
  | _, .bool _ => true
  | _, .int _ => true
  | _, .str x => sok x
  | 0, .list _ => false
  | 0, .tuple _ => false
  | n + 1, .list xs => shps n xs
  | n + 1, .tuple xs => shps n xs
  | _, .dict _ => false
@[simp] def shps : Nat → List PyData → Bool
  | _, [] => true
  | n, x :: xs => shp n x && shps n xs
end
@[simp] def oEq (x y : Vl) : Option Vl := match x.look, y.look with
  | some d, some e => if shp 12 d && shp 12 e then some (.dat (.bool (deq d e))) else none
  | _, _ => none
@[simp] def oNe (x y : Vl) : Option Vl := match x.look, y.look with
  | some d, some e => if shp 12 d && shp 12 e then some (.dat (.bool (!deq d e))) else none
  | _, _ => none
@[simp] def flat : PyData → Bool
  | .none => true
  | .bool _ => true
  | .int _ => true
  | .str _ => true
  | _ => false
/-- x in a list; in a tuple of flat things; a sign in a text -/
@[simp] def hasIn (x y : Vl) : Option Bool := match x.look with
  | none => none
  | some d => (match y.lst? with
    | some l => if shp 12 d && shp 12 (.list l) then some (l.any fun e => deq e d) else none
    | none => (match y.tup? with
      | some l => if flat d && l.all flat then some (l.any fun e => deq e d) else if shp 12 d && shp 12 (.tuple l) then some (l.any fun e => deq e d) else none
      | none => (match d, y with
        | .str c, .dat (.str z) => (match c.cps.toList with
          | [ch] => some (decide (ch ∈ z.cps.toList))
          | _ => none)
        | _, _ => none)))
@[simp] def oIn (x y : Vl) : Option Vl := (hasIn x y).map fun b => .dat (.bool b)
@[simp] def oNotIn (x y : Vl) : Option Vl := (hasIn x y).map fun b => .dat (.bool !b)
@[simp] def isNon : PyData → Bool
  | .none => true
  | _ => false
@[simp] def oIsN (x y : Vl) : Option Vl := match x, y with
  | .dat d, .dat .none => some (.dat (.bool (isNon d)))
  | _, _ => none
@[simp] def oNotN (x y : Vl) : Option Vl := match x, y with
  | .dat d, .dat .none => some (.dat (.bool (!isNon d)))
  | _, _ => none
@[simp] def oPow : Vl → Vl → Option Vl
  | .dat (.int a), .dat (.int b) => if 0 ≤ b ∧ b ≤ 1000 ∧ -1000000 < a ∧ a < 1000000 then some (.dat (.int (a ^ b.toNat))) else none
  | _, _ => none
/-! slices by ones -/
def cutAt (n d : Nat) : Option Int → Nat
  | none => d
  | some i => if i < 0 then (i + (n : Int)).toNat else min i.toNat n
def cutL {A : Type} (l : List A) (lo hi : Option Int) : List A := (l.drop (cutAt l.length 0 lo)).take (cutAt l.length l.length hi - cutAt l.length 0 lo)
@[simp] def oSl (x : Vl) (lo hi : Option Int) : Option Vl := match x with
  | .dat (.str z) => if z.length ≤ 100000 then some (.dat (.str ⟨(cutL z.cps.toList lo hi).toArray⟩)) else none
  | .dat (.tuple l) => some (.dat (.tuple (cutL l lo hi)))
  | x => (match x.lst? with
    | some l => some (.own (cutL l lo hi))
    | none => none)
/-! built-ins -/
@[simp] def bLen : List Vl → Option Vl
  | [.dat (.str z)] => if z.length ≤ 100000 then some (.dat (.int z.length)) else none
  | [x] => (match x.seq? with
    | some l => some (.dat (.int l.length))
    | none => none)
  | _ => none
@[simp] def bMin : List Vl → Option Vl
  | [.dat (.int a), .dat (.int b)] => some (.dat (.int (if b < a then b else a)))
  | _ => none
@[simp] def bMax : List Vl → Option Vl
  | [.dat (.int a), .dat (.int b)] => some (.dat (.int (if b > a then b else a)))
  | _ => none
@[simp] def bInt : List Vl → Option Vl
  | [.dat (.int a)] => some (.dat (.int a))
  | [.dat (.bool b)] => some (.dat (.int (if b then 1 else 0)))
  | _ => none
@[simp] def bTuple : List Vl → Option Vl
  | [x] => (match x.seq? with
    | some l => some (.dat (.tuple l))
    | none => none)
  | _ => none
@[simp] def bList : List Vl → Option Vl
  | [x] => (match x.seq? with
    | some l => some (.own l)
    | none => none)
  | _ => none
def intsOf : List PyData → Option (List Int)
  | [] => some []
  | .int i :: ds => (intsOf ds).map (i :: ·)
  | _ => none
@[simp] def bSum : List Vl → Option Vl
  | [x] => (match x.seq? with
    | some l => (intsOf l).map fun ns => .dat (.int ns.sum)
    | none => none)
  | _ => none

/-- isinstance(x, T), T by number: tuple, list, bool, int, str -/
@[simp] def isiD : Nat → PyData → Bool
  | 0, .tuple _ => true
  | 1, .list _ => true
  | 2, .bool _ => true
  | 3, .bool _ => true
  | 3, .int _ => true
  | 4, .str _ => true
  | _, _ => false
@[simp] def oIsi (k : Nat) (x : Vl) : Option Vl := match x.look with
  | some d => some (.dat (.bool (isiD k d)))
  | none => none

/-- pairs of whole numbers -/
def pairsOf : List PyData → Option (List (Int × Int))
  | [] => some []
  | .tuple [.int a, .int b] :: ds => (pairsOf ds).map ((a, b) :: ·)
  | _ => none
def ltP (p q : Int × Int) : Bool := decide (p.1 < q.1) || (p.1 == q.1 && decide (p.2 < q.2))
def insP (p : Int × Int) : List (Int × Int) → List (Int × Int)
  | [] => [p]
  | q :: qs => if ltP p q then p :: q :: qs else if p = q then q :: qs else q :: insP p qs
/-- each once, in turn -/
def srtP (ps : List (Int × Int)) : List (Int × Int) := ps.foldr insP []
def encP (p : Int × Int) : PyData := .tuple [.int p.1, .int p.2]
/-- sorted(set(x)), x a list of few pairs of small whole numbers -/
@[simp] def oSrtSet (x : Vl) : Option Vl := match x.lst? with
  | some l => (match pairsOf l with
    | some ps => if ps.length < 64 ∧ (ps.all fun p => decide (0 ≤ p.1) && decide (p.1 < 1000000) && (decide (0 ≤ p.2) && decide (p.2 < 1000000))) then some (.own ((srtP ps).map encP)) else none
    | none => none)
  | none => none
theorem ltP_iff (p q : Int × Int) : ltP p q = true ↔ p.1 < q.1 ∨ (p.1 = q.1 ∧ p.2 < q.2) := by simp [ltP]
theorem mem_insP (p x : Int × Int) (l : List (Int × Int)) : x ∈ insP p l ↔ x = p ∨ x ∈ l := by
  induction l with
  | nil => simp [insP]
  | cons q qs ih =>
    unfold insP
    split
    · simp
    · split
      · rename_i h
        subst h
        simp
      · simp only [List.mem_cons, ih]
        constructor
        · rintro (h | h | h)
          · exact .inr (.inl h)
          · exact .inl h
          · exact .inr (.inr h)
        · rintro (h | h | h)
          · exact .inr (.inl h)
          · exact .inl h
          · exact .inr (.inr h)
theorem mem_srtP (x : Int × Int) (l : List (Int × Int)) : x ∈ srtP l ↔ x ∈ l := by
  unfold srtP
  induction l with
  | nil => simp
  | cons p l ih => simp [List.foldr_cons, mem_insP, ih]
theorem pw_insP (p : Int × Int) (l : List (Int × Int)) (h : l.Pairwise fun a b => ltP a b = true) : (insP p l).Pairwise fun a b => ltP a b = true := by
  induction l with
  | nil => simp [insP]
  | cons q qs ih =>
    rw [List.pairwise_cons] at h
    unfold insP
    split
    · rename_i hp
      rw [List.pairwise_cons]
      refine ⟨fun x hx => ?_, List.pairwise_cons.mpr h⟩
      rcases List.mem_cons.mp hx with rfl | hx
      · exact hp
      · have := h.1 x hx
        rw [ltP_iff] at this hp ⊢
        omega
    · split
      · exact List.pairwise_cons.mpr h
      · rename_i h1 h2
        rw [List.pairwise_cons]
        refine ⟨fun x hx => ?_, ih h.2⟩
        rcases (mem_insP p x qs).mp hx with rfl | hx
        · rw [ltP_iff] at h1 ⊢
          have : ¬ (x.1 = q.1 ∧ x.2 = q.2) := fun z => h2 (Prod.ext z.1 z.2)
          omega
        · exact h.1 x hx
theorem pw_srtP (l : List (Int × Int)) : (srtP l).Pairwise fun a b => ltP a b = true := by
  unfold srtP
  induction l with
  | nil => simp
  | cons p l ih => exact pw_insP p _ ih
theorem srt_uniq : ∀ (l m : List (Int × Int)), (l.Pairwise fun a b => ltP a b = true) → (m.Pairwise fun a b => ltP a b = true) → (∀ x, x ∈ l ↔ x ∈ m) → l = m
  | [], [], _, _, _ => rfl
  | [], y :: m, _, _, h => absurd ((h y).mpr List.mem_cons_self) (by simp)
  | x :: l, [], _, _, h => absurd ((h x).mp List.mem_cons_self) (by simp)
  | x :: l, y :: m, hl, hm, h => by
    rw [List.pairwise_cons] at hl hm
    have nn : ∀ z : Int × Int, ¬ ltP z z = true := fun z hz => by rw [ltP_iff] at hz; omega
    have e : x = y := by
      rcases List.mem_cons.mp ((h x).mp List.mem_cons_self) with e | hx
      · exact e
      · rcases List.mem_cons.mp ((h y).mpr List.mem_cons_self) with e | hy
        · exact e.symm
        · have a := hl.1 y hy
          have b := hm.1 x hx
          rw [ltP_iff] at a b
          omega
    subst e
    rw [srt_uniq l m hl.2 hm.2 fun z => ?_]
    constructor
    · intro hz
      rcases List.mem_cons.mp ((h z).mp (List.mem_cons_of_mem _ hz)) with e | hz'
      · exact absurd (e ▸ hl.1 z hz) (nn _)
      · exact hz'
    · intro hz
      rcases List.mem_cons.mp ((h z).mpr (List.mem_cons_of_mem _ hz)) with e | hz'
      · exact absurd (e ▸ hm.1 z hz) (nn _)
      · exact hz'

/-! the dice of a law: the script's numbers, and (place, mixed, held) once they are made -/
structure DG where
  ns : List Int
  d : Option (Int × Int × Int)
/-- a call of a def that is handed the n0-th thing of the world and data -/
@[simp] def sCallT {G : Type} (n0 : Nat) (f : List PyData → G → R Vl G) (a : MA G) : ME G := fun r g => (a r g).bind fun vs g1 => match vs with
  | .tok n :: vs => if n = n0 then (match frzAll vs with
    | some ds => f ds g1
    | none => .no) else .no
  | _ => .no
/-- a list of the dice read: its k-th cell -/
@[simp] def sDIx (i : Nat) (k : Nat) : ME DG := fun r g => match r[i]? with
  | some (some (.tok 1)) => (match g.d with
    | some (p, m, h) => (match k with
      | 0 => .ok (.tok 0) g
      | 1 => .ok (.dat (.int p)) g
      | 2 => .ok (.dat (.int m)) g
      | 3 => .ok (.dat (.int h)) g
      | _ => .no)
    | none => .no)
  | _ => .no
/-- how many numbers the script has; one of them -/
@[simp] def sDLen (e : ME DG) : ME DG := fun r g => (e r g).bind fun x g1 => match x with
  | .tok 0 => .ok (.dat (.int g1.ns.length)) g1
  | _ => .no
@[simp] def sDAt (e i : ME DG) : ME DG := fun r g => (e r g).bind fun x g1 => (i r g1).bind fun y g2 => match x, y with
  | .tok 0, .dat (.int j) => if 0 ≤ j then (match g2.ns[j.toNat]? with
    | some n => .ok (.dat (.int n)) g2
    | none => .no) else .no
  | _, _ => .no
@[simp] def sDSet (i : Nat) (k : Nat) (e : ME DG) : MS DG := fun r g => (e r g).out r fun v g1 => match r[i]? with
  | some (some (.tok 1)) => (match v, g1.d with
    | .dat (.int n), some (p, m, h) => (match k with
      | 1 => .nx r { g1 with d := some (n, m, h) }
      | 2 => .nx r { g1 with d := some (p, n, h) }
      | 3 => .nx r { g1 with d := some (p, m, n) }
      | _ => .no)
    | _, _ => .no)
  | _ => .no
@[simp] def iDScr (i : Nat) : MI DG := fun r g => match r[i]? with
  | some (some (.tok 0)) => .ok (g.ns.map fun n => .int n) g
  | _ => .no
/-- return [script, a, b, c]: the dice -/
@[simp] def sRetDice (i : Nat) (a b c : ME DG) : MS DG := fun r g => match r[i]? with
  | some (some (.tok 0)) => (a r g).out r fun x g1 => (b r g1).out r fun y g2 => (c r g2).out r fun z g3 => match x, y, z, g3.d with
    | .dat (.int p), .dat (.int m), .dat (.int h), none => .rt (.tok 1) { g3 with d := some (p, m, h) }
    | _, _, _, _ => .no
  | _ => .no
@[simp] def envOfT (n0 n : Nat) (ds : List PyData) : Env := some (.tok n0) :: ds.map (fun d => some (.dat d)) ++ List.replicate (n - (ds.length + 1)) none
/-- a def run that is handed the n0-th thing of the world and k data; n names -/
@[simp] def runT {G : Type} (n0 k n : Nat) (m : MS G) (ds : List PyData) (g : G) : R Vl G := if ds.length = k then (match m (envOfT n0 n ds) g with
  | .rt (.dat d) g' => .ok (.dat d) g'
  | .rt (.own l) g' => .ok (.own l) g'
  | .rt (.tok n) g' => .ok (.tok n) g'
  | .nx _ g' => .ok (.dat .none) g'
  | .er e _ g' => .er e g'
  | _ => .no) else .no
@[simp] def envOf (n : Nat) (ds : List PyData) : Env := ds.map (fun d => some (.dat d)) ++ List.replicate (n - ds.length) none
/-- a def run on data: k parameters, n names -/
@[simp] def runD (k n : Nat) (m : MS Unit) (ds : List PyData) : R Vl Unit := if ds.length = k then (match m (envOf n ds) () with
  | .rt (.dat d) _ => .ok (.dat d) ()
  | .rt (.own l) _ => .ok (.own l) ()
  | .nx _ _ => .ok (.dat .none) ()
  | .er e _ _ => .er e ()
  | _ => .no) else .no
theorem runD_no {k n : Nat} {m : MS Unit} (ds : List PyData) (h : ds.length ≠ k) : runD k n m ds = .no := by
  unfold runD
  rw [if_neg h]
/-! objects: a field is data, or a list of the object's own -/
inductive FV where
  | dat (d : PyData) | own (l : List PyData)
abbrev GO := List FV
def setF (i : Nat) (v : FV) (g : GO) : Option GO := if i < g.length then some (g.set i v) else if i = g.length then some (g ++ [v]) else none
/-- the object itself stands in the first slot -/
@[simp] def isSelf (r : Env) : Bool := match r[(0 : Nat)]? with
  | some (some (.tok 0)) => true
  | _ => false
/-- self.f, data -/
@[simp] def sFd (i : Nat) : ME GO := fun r g => if isSelf r then (match g[i]? with
  | some (.dat d) => .ok (.dat d) g
  | _ => .no) else .no
/-- self.f = e -/
@[simp] def sFset (i : Nat) (e : ME GO) : MS GO := fun r g => if isSelf r then (e r g).out r fun v g1 => match v with
  | .dat d => (match setF i (.dat d) g1 with
    | some g2 => .nx r g2
    | none => .no)
  | .own l => (match setF i (.own l) g1 with
    | some g2 => .nx r g2
    | none => .no)
  | _ => .no
  else .no
/-- what a part that doesn't ask of the world sees of the slots: the data -/
@[simp] def noTok : Env → Env
  | [] => []
  | some (.dat d) :: r => some (.dat d) :: noTok r
  | _ :: r => none :: noTok r
/-- self.f.append(e), e a part that doesn't ask of the world -/
@[simp] def sFapp (i : Nat) (e : ME Unit) : MS GO := fun r g => if isSelf r then (match g[i]? with
  | some (.own l) => (match e (noTok r) () with
    | .ok v _ => (match v.frz with
      | some d => if l.length < 100000 then .nx r (g.set i (.own (l ++ [d]))) else .no
      | none => .no)
    | _ => .no)
  | _ => .no) else .no
/-- self.m(..) -/
@[simp] def sCallM (f : List PyData → GO → R Vl GO) (a : MA GO) : ME GO := fun r g => if isSelf r then (a r g).bind fun vs g1 => match frzAll vs with
  | some ds => f ds g1
  | none => .no
  else .no
/-- objects behind another world: all of their fields let go as data once they are made -/
@[simp] def frzG : GO → List PyData
  | [] => []
  | .dat d :: g => d :: frzG g
  | .own l :: g => .list l :: frzG g
abbrev GM (G : Type) := G × List GO
/-- C(..): the object is made, and stays as it is from then on -/
@[simp] def sNewO {G : Type} (f : List PyData → GO → R Vl GO) (a : MA (GM G)) : ME (GM G) := fun r g => (a r g).bind fun vs g1 => match frzAll vs with
  | some ds => (match f ds [] with
    | .ok (.dat .none) o => .ok (.tok (g1.2.length + 2)) (g1.1, g1.2 ++ [(frzG o).map FV.dat])
    | _ => .no)
  | none => .no
/-- o.m(..), o in a slot -/
@[simp] def sCallO {G : Type} (i : Nat) (f : List PyData → GO → R Vl GO) (a : MA (GM G)) : ME (GM G) := fun r g => match r[i]? with
  | some (some (.tok (n + 2))) => (a r g).bind fun vs g1 => match frzAll vs, g1.2[n]? with
    | some ds, some o => (match f ds o with
      | .ok (.dat d) o' => .ok (.dat d) (g1.1, g1.2.set n o')
      | .ok (.own l) o' => .ok (.own l) (g1.1, g1.2.set n o')
      | .er e o' => .er e (g1.1, g1.2.set n o')
      | _ => .no)
    | _, _ => .no
  | _ => .no
/-- a method that is handed nothing but data -/
@[simp] def runM (k n : Nat) (m : MS GO) (ds : List PyData) (g : GO) : R Vl GO := runT 0 k n m ds g
/-- a def run on data in a world of objects -/
@[simp] def runO (k n : Nat) (m : MS (GM Unit)) (ds : List PyData) : R Vl Unit := if ds.length = k then (match m (envOf n ds) ((), []) with
  | .rt (.dat d) _ => .ok (.dat d) ()
  | .rt (.own l) _ => .ok (.own l) ()
  | .nx _ _ => .ok (.dat .none) ()
  | .er e _ _ => .er e ()
  | _ => .no) else .no
end CW
/-! CwSound: the readings of the hand layer against my functions over data. -/
namespace CW
open PySem L2

abbrev FR := PySem.W.Frag
/-! ### data in a heap grows with it -/
theorem rd_mono {F H : Hp} (e : ∀ b o, F b = some o → H b = some o) {a : Addr} {u : HO} (h : Rd F a u) : Rd H a u := by
  rcases h with h | ⟨o, h⟩
  · exact .inl (e _ _ h)
  · exact .inr ⟨o, e _ _ h⟩
theorem sql_mono {K : FR} {F H : Hp} (e : ∀ b o, F b = some o → H b = some o) {a : Addr} {xs : List V} (h : SqL K F a xs) : SqL K H a xs := by
  rcases h with h | h
  · exact .inl (rd_mono e h)
  · exact .inr h
theorem sqt_mono {K : FR} {F H : Hp} (e : ∀ b o, F b = some o → H b = some o) {a : Addr} {xs : List V} (h : SqT K F a xs) : SqT K H a xs := by
  rcases h with h | h
  · exact .inl (rd_mono e h)
  · exact .inr h
mutual
/-- a value stands for data in a heap -/
inductive Dp (K : FR) (H : Hp) : V → PyData → Prop
  | non : Dp K H .non .none
  | bl (b : Bool) : Dp K H (.bl b) (.bool b)
  | int (i : Int) : Dp K H (.int i) (.int i)
  | str (x : Str) : Dp K H (.str x) (.str x)
  | lst {a : Addr} {xs : List V} {ds : List PyData} : Rd H a (.lst xs) → DpAll K H xs ds → Dp K H (.ref a) (.list ds)
  | tup {a : Addr} {xs : List V} {ds : List PyData} : Rd H a (.tup xs) → DpAll K H xs ds → Dp K H (.ref a) (.tuple ds)
inductive DpAll (K : FR) (H : Hp) : List V → List PyData → Prop
  | nil : DpAll K H [] []
  | cons {v : V} {vs : List V} {d : PyData} {ds : List PyData} : Dp K H v d → DpAll K H vs ds → DpAll K H (v :: vs) (d :: ds)
end
mutual
theorem dp_lib {K : FR} {H : Hp} : ∀ (d : PyData) {v : V}, Dp K H v d → L2.Dp K H v d
  | .none, _, h => by cases h; exact .non
  | .bool b, _, h => by cases h; exact .bl b
  | .int i, _, h => by cases h; exact .int i
  | .str x, _, h => by cases h; exact .str x
  | .list ds, _, h => by cases h with | lst h1 h2 => exact .lst (.inl h1) (dps_lib ds h2)
  | .tuple ds, _, h => by cases h with | tup h1 h2 => exact .tup (.inl h1) (dps_lib ds h2)
  | .dict _, _, h => by cases h
theorem dps_lib {K : FR} {H : Hp} : ∀ (ds : List PyData) {vs : List V}, DpAll K H vs ds → L2.DpAll K H vs ds
  | [], _, h => by cases h; exact .nil
  | d :: ds, _, h => by cases h with | cons h1 h2 => exact .cons (dp_lib d h1) (dps_lib ds h2)
end
mutual
theorem dp_mono {K : FR} {F H : Hp} (e : ∀ b o, F b = some o → H b = some o) : ∀ (d : PyData) {v : V}, Dp K F v d → Dp K H v d
  | .none, _, h => by cases h; exact .non
  | .bool b, _, h => by cases h; exact .bl b
  | .int i, _, h => by cases h; exact .int i
  | .str x, _, h => by cases h; exact .str x
  | .list ds, _, h => by cases h with | lst h1 h2 => exact .lst (rd_mono e h1) (dps_mono e ds h2)
  | .tuple ds, _, h => by cases h with | tup h1 h2 => exact .tup (rd_mono e h1) (dps_mono e ds h2)
  | .dict _, _, h => by cases h
theorem dps_mono {K : FR} {F H : Hp} (e : ∀ b o, F b = some o → H b = some o) : ∀ (ds : List PyData) {vs : List V}, DpAll K F vs ds → DpAll K H vs ds
  | [], _, h => by cases h; exact .nil
  | d :: ds, _, h => by cases h with | cons h1 h2 => exact .cons (dp_mono e d h1) (dps_mono e ds h2)
end
theorem dps_len {K : FR} {H : Hp} : ∀ {vs : List V} {ds : List PyData}, DpAll K H vs ds → vs.length = ds.length
  | _, _, .nil => rfl
  | _, _, .cons _ h => by simp [dps_len h]
theorem dps_at {K : FR} {H : Hp} : ∀ {vs : List V} {ds : List PyData} {i : Nat} {d : PyData}, DpAll K H vs ds → ds[i]? = some d → ∃ v, vs[i]? = some v ∧ Dp K H v d
  | _, _, _, _, .nil, e => by simp at e
  | _, _, 0, _, .cons h _, e => by simp at e; subst e; exact ⟨_, rfl, h⟩
  | _, _, i + 1, _, .cons _ h, e => by
    obtain ⟨v, h1, h2⟩ := dps_at (i := i) h (by simpa using e)
    exact ⟨v, by simpa using h1, h2⟩
theorem dps_app {K : FR} {H : Hp} : ∀ {vs ws : List V} {ds es : List PyData}, DpAll K H vs ds → DpAll K H ws es → DpAll K H (vs ++ ws) (ds ++ es)
  | _, _, _, _, .nil, h => h
  | _, _, _, _, .cons h t, h' => .cons h (dps_app t h')
theorem dps_drop {K : FR} {H : Hp} : ∀ (n : Nat) {vs : List V} {ds : List PyData}, DpAll K H vs ds → DpAll K H (vs.drop n) (ds.drop n)
  | 0, _, _, h => h
  | _ + 1, _, _, .nil => .nil
  | n + 1, _, _, .cons _ t => dps_drop n t
theorem dps_take {K : FR} {H : Hp} : ∀ (n : Nat) {vs : List V} {ds : List PyData}, DpAll K H vs ds → DpAll K H (vs.take n) (ds.take n)
  | 0, _, _, _ => .nil
  | _ + 1, _, _, .nil => .nil
  | n + 1, _, _, .cons h t => .cons h (dps_take n t)
theorem dps_rep {K : FR} {H : Hp} {vs : List V} {ds : List PyData} (h : DpAll K H vs ds) : ∀ k : Nat, DpAll K H (List.replicate k vs).flatten (List.replicate k ds).flatten
  | 0 => .nil
  | k + 1 => by
    rw [List.replicate_succ, List.replicate_succ, List.flatten_cons, List.flatten_cons]
    exact dps_app h (dps_rep h k)
theorem dps_set {K : FR} {H : Hp} {v : V} {d : PyData} (hv : Dp K H v d) : ∀ (i : Nat) {vs : List V} {ds : List PyData}, DpAll K H vs ds → DpAll K H (vs.set i v) (ds.set i d)
  | _, _, _, .nil => .nil
  | 0, _, _, .cons _ t => .cons hv t
  | i + 1, _, _, .cons h t => .cons h (dps_set hv i t)

/-! ### the world -/
structure Wld (K : FR) where
  G : Type
  A : Type
  tok : A → Nat → Option Addr
  reg : A → Addr → Prop
  at_ : A → G → Hp → Hp → Prop
  keep : ∀ {a : A} {g : G} {F H F' H' : Hp}, at_ a g F H → (∀ b o, F b = some o → F' b = some o) → (∀ b, reg a b → F' b = none ∧ H' b = H b) → at_ a g F' H'
  off : ∀ {a : A} {g : G} {F H : Hp} {b : Addr}, at_ a g F H → reg a b → F b = none ∧ H b ≠ none
structure Ctx (K : FR) where
  W : Wld K
  mg : Str → Option Value
  Wx : WX

structure Ext {K : FR} (W : Wld K) (a : W.A) (F H : Hp) (a' : W.A) (F' H' : Hp) : Prop where
  ff : ∀ b o, F b = some o → F' b = some o
  fh : ∀ b o, F' b = some o → H' b = some o
  st : ∀ b, H b ≠ none → F b = none → ¬ W.reg a b → F' b = none ∧ H' b = H b ∧ ¬ W.reg a' b
  rg : ∀ b, H b ≠ none → F b = none → W.reg a b → F' b = none
  al : ∀ b, H b ≠ none → H' b ≠ none
  tk : ∀ i b, W.tok a i = some b → W.tok a' i = some b
/-- only new things -/
structure PExt (F H F' H' : Hp) : Prop where
  ff : ∀ b o, F b = some o → F' b = some o
  fh : ∀ b o, F' b = some o → H' b = some o
  st : ∀ b, H b ≠ none → F b = none → F' b = none ∧ H' b = H b
theorem PExt.refl {F H : Hp} (s : ∀ b o, F b = some o → H b = some o) : PExt F H F H := ⟨fun _ _ h => h, s, fun _ _ h => ⟨h, rfl⟩⟩
theorem PExt.al {F H F' H' : Hp} (e : PExt F H F' H') (s : ∀ b o, F b = some o → H b = some o) (b : Addr) (h : H b ≠ none) : H' b ≠ none := by
  cases q : F b with
  | none => rw [(e.st b h q).2]; exact h
  | some o => rw [e.fh b o (e.ff b o q)]; simp
theorem PExt.same {F H F' H' : Hp} (e : PExt F H F' H') (s : ∀ b o, F b = some o → H b = some o) : ∀ b o, H b = some o → H' b = some o := fun b o h => by
  cases q : F b with
  | none => rw [(e.st b (by rw [h]; simp) q).2]; exact h
  | some u =>
    have := s b u q
    rw [h] at this; cases this
    exact e.fh b _ (e.ff b _ q)
theorem PExt.trans {F H F1 H1 F2 H2 : Hp} (s : ∀ b o, F b = some o → H b = some o) (x : PExt F H F1 H1) (y : PExt F1 H1 F2 H2) : PExt F H F2 H2 :=
  ⟨fun b o h => y.ff b o (x.ff b o h), y.fh, fun b h f => by
    obtain ⟨p, q⟩ := x.st b h f
    obtain ⟨p2, q2⟩ := y.st b (x.al s b h) p
    exact ⟨p2, q2.trans q⟩⟩
/-- a new thing, known -/
theorem PExt.new {F H : Hp} {p : Addr} {o : HO} (s : ∀ b o, F b = some o → H b = some o) (n : H p = none) : PExt F H (upd F p o) (upd H p o) := by
  have fp : F p = none := by
    cases q : F p with
    | none => rfl
    | some u => rw [s p u q] at n; cases n
  refine ⟨fun b u h => ?_, fun b u h => ?_, fun b h f => ?_⟩
  · rw [upd_ne (ne_of_none h fp)]; exact h
  · by_cases e : b = p
    · subst e; rw [upd_same] at h ⊢; exact h
    · rw [upd_ne e] at h ⊢; exact s b u h
  · have e : b ≠ p := fun e => by subst e; exact h n
    rw [upd_ne e, upd_ne e]; exact ⟨f, rfl⟩
/-- a new thing, not yet known -/
theorem PExt.own {F H : Hp} {p : Addr} {o : HO} (s : ∀ b o, F b = some o → H b = some o) (n : H p = none) : PExt F H F (upd H p o) := by
  refine ⟨fun b u h => h, fun b u h => ?_, fun b h f => ?_⟩
  · rw [upd_ne (ne_of_none (s b u h) n)]; exact s b u h
  · have e : b ≠ p := fun e => by subst e; exact h n
    rw [upd_ne e]; exact ⟨f, rfl⟩
section
variable {K : FR} {W : Wld K} {a a1 a2 : W.A} {g : W.G} {F H F1 H1 F2 H2 : Hp}
theorem Ext.refl (s : ∀ b o, F b = some o → H b = some o) : Ext W a F H a F H :=
  ⟨fun _ _ h => h, s, fun _ _ h r => ⟨h, rfl, r⟩, fun _ _ h _ => h, fun _ h => h, fun _ _ h => h⟩
theorem Ext.trans (x : Ext W a F H a1 F1 H1) (y : Ext W a1 F1 H1 a2 F2 H2) : Ext W a F H a2 F2 H2 :=
  ⟨fun b o h => y.ff b o (x.ff b o h), y.fh, fun b h f r => by
    obtain ⟨p, q, r1⟩ := x.st b h f r
    obtain ⟨p2, q2, r2⟩ := y.st b (x.al b h) p r1
    exact ⟨p2, q2.trans q, r2⟩, fun b h f r => by
    by_cases r1 : W.reg a1 b
    · exact y.rg b (x.al b h) (x.rg b h f r) r1
    · exact (y.st b (x.al b h) (x.rg b h f r) r1).1, fun b h => y.al b (x.al b h), fun i b h => y.tk i b (x.tk i b h)⟩
theorem Ext.of (s : ∀ b o, F b = some o → H b = some o) (e : PExt F H F1 H1) : Ext W a F H a F1 H1 :=
  ⟨e.ff, e.fh, fun b h f r => ⟨(e.st b h f).1, (e.st b h f).2, r⟩, fun b h f _ => (e.st b h f).1, e.al s, fun _ _ h => h⟩
theorem at_of (h : W.at_ a g F H) (e : PExt F H F1 H1) : W.at_ a g F1 H1 := W.keep h e.ff fun b r => by
  obtain ⟨f, n⟩ := W.off h r
  exact e.st b n f
/-- what value stands for what -/
def IsV (W : Wld K) (a : W.A) (F H : Hp) (x : V) : Vl → Prop
  | .dat d => Dp K F x d
  | .tok n => ∃ p, W.tok a n = some p ∧ x = .ref p
  | .own l => ∃ p xs, x = .ref p ∧ H p = some (.lst xs) ∧ DpAll K F xs l ∧ F p = none ∧ ¬ W.reg a p
  | .lent l => ∃ p xs, x = .ref p ∧ H p = some (.lst xs) ∧ DpAll K F xs l ∧ F p = none ∧ ¬ W.reg a p
def IsN (H : Hp) (x : V) : Vl → Prop
  | .own _ => ∃ p, x = .ref p ∧ H p = none
  | _ => True
theorem IsV.step {x : V} : ∀ {v : Vl}, IsV W a F H x v → Ext W a F H a1 F1 H1 → IsV W a1 F1 H1 x v
  | .dat _, h, e => dp_mono e.ff _ h
  | .tok _, ⟨p, h, q⟩, e => ⟨p, e.tk _ _ h, q⟩
  | .own _, ⟨p, xs, h, hp, hd, f, r⟩, e => by
    obtain ⟨f1, h1, r1⟩ := e.st p (by rw [hp]; simp) f r
    exact ⟨p, xs, h, h1.trans hp, dps_mono e.ff _ hd, f1, r1⟩
  | .lent _, ⟨p, xs, h, hp, hd, f, r⟩, e => by
    obtain ⟨f1, h1, r1⟩ := e.st p (by rw [hp]; simp) f r
    exact ⟨p, xs, h, h1.trans hp, dps_mono e.ff _ hd, f1, r1⟩
theorem IsN.back {x : V} : ∀ {v : Vl}, (∀ b, H b ≠ none → H1 b ≠ none) → IsN H1 x v → IsN H x v
  | .dat _, _, _ => True.intro
  | .tok _, _, _ => True.intro
  | .lent _, _, _ => True.intro
  | .own _, e, ⟨p, h, q⟩ => ⟨p, h, Classical.byContradiction fun z => e p z q⟩
end

def ErrAt (mg : Str → Option Value) (e : Er) (C : Value) (d : Option Addr) (H : Hp) : Prop :=
  (∃ p, mg e.cls = some (.ref p) ∧ C = .ref p) ∧ match e.arg with
    | none => d = none
    | some i => ∃ q, d = some q ∧ H q = some (.xd [((if e.cls = "BadText" then "row" else "at" : Str), .int i)])

structure Rep {K : FR} (W : Wld K) (a0 : W.A) (F0 H0 : Hp) (a : W.A) (g : W.G) (F H : Hp) (s : L2.St) (r : Env) : Prop where
  ext : Ext W a0 F0 H0 a F H
  at_ : W.at_ a g F H
  len : s.length = r.length
  slot : ∀ (i : Nat) (v : Vl), r[i]? = some (some v) → ∃ x, s[i]? = some (some x) ∧ IsV W a F H x v
  nol : ∀ (i : Nat) (l : List PyData), r[i]? ≠ some (some (.lent l))
  own : ∀ (i : Nat) (l : List PyData) (p : Addr), r[i]? = some (some (.own l)) → s[i]? = some (some (.ref p)) → H0 p = none ∧ ∀ (j : Nat) (m : List PyData), j ≠ i → r[j]? = some (some (.own m)) → s[j]? ≠ some (some (.ref p))
section
variable {K : FR} {c : Ctx K} {a0 a a1 : c.W.A} {g g1 : c.W.G} {F0 H0 F H F1 H1 : Hp} {s : L2.St} {r : Env}
theorem Rep.sub (p : Rep c.W a0 F0 H0 a g F H s r) : ∀ b o, F b = some o → H b = some o := p.ext.fh
theorem Rep.step (p : Rep c.W a0 F0 H0 a g F H s r) (e : Ext c.W a F H a1 F1 H1) (t : c.W.at_ a1 g1 F1 H1) : Rep c.W a0 F0 H0 a1 g1 F1 H1 s r where
  ext := p.ext.trans e
  at_ := t
  len := p.len
  slot := fun i v h => let ⟨x, h1, h2⟩ := p.slot i v h; ⟨x, h1, h2.step e⟩
  nol := p.nol
  own := p.own

/-- what is wanted of an expression's end -/
def PostE (c : Ctx K) (a : c.W.A) (F H : Hp) (s : L2.St) (Q : VK) : R Vl c.W.G → Prop
  | .ok v g' => ∀ a' F' H' x, Ext c.W a F H a' F' H' → c.W.at_ a' g' F' H' → IsV c.W a' F' H' x v → IsN H x v → Q x H'
  | .er e g' => ∀ a' F' H' C d, Ext c.W a F H a' F' H' → c.W.at_ a' g' F' H' → ErrAt c.mg e C d H' → c.Wx C d s H'
  | .no => False
def PostT (c : Ctx K) (a : c.W.A) (F H : Hp) (s : L2.St) (Q : Bool → Hp → Prop) : R Bool c.W.G → Prop
  | .ok b g' => ∀ a' F' H', Ext c.W a F H a' F' H' → c.W.at_ a' g' F' H' → Q b H'
  | .er e g' => ∀ a' F' H' C d, Ext c.W a F H a' F' H' → c.W.at_ a' g' F' H' → ErrAt c.mg e C d H' → c.Wx C d s H'
  | .no => False
/-- values from the left; the new ones are told apart -/
inductive AreV (W : Wld K) (a : W.A) (F H : Hp) (H0 : Hp) : List V → List Vl → Prop
  | nil : AreV W a F H H0 [] []
  | cons {x : V} {xs : List V} {v : Vl} {vs : List Vl} : IsV W a F H x v → IsN H0 x v → (∀ (p : Addr) (l : List PyData), v = .own l → x = .ref p → ∀ (j : Nat) (m : List PyData), vs[j]? = some (.own m) → xs[j]? ≠ some (.ref p)) → AreV W a F H H0 xs vs → AreV W a F H H0 (x :: xs) (v :: vs)
def PostA (c : Ctx K) (a : c.W.A) (F H : Hp) (s : L2.St) (Q : List V → Hp → Prop) : R (List Vl) c.W.G → Prop
  | .ok vs g' => ∀ a' F' H' xs, Ext c.W a F H a' F' H' → c.W.at_ a' g' F' H' → AreV c.W a' F' H' H xs vs → Q xs H'
  | .er e g' => ∀ a' F' H' C d, Ext c.W a F H a' F' H' → c.W.at_ a' g' F' H' → ErrAt c.mg e C d H' → c.Wx C d s H'
  | .no => False
def SoundE (c : Ctx K) (t : TE) (m : ME c.W.G) : Prop := ∀ a0 F0 H0 a g F H s r Q, Rep c.W a0 F0 H0 a g F H s r → PostE c a F H s Q (m r g) → t s H Q
def SoundT (c : Ctx K) (t : TT) (m : MT c.W.G) : Prop := ∀ a0 F0 H0 a g F H s r Q, Rep c.W a0 F0 H0 a g F H s r → PostT c a F H s Q (m r g) → t s H Q
def SoundA (c : Ctx K) (t : TA) (m : MA c.W.G) : Prop := ∀ a0 F0 H0 a g F H s r Q, Rep c.W a0 F0 H0 a g F H s r → PostA c a F H s Q (m r g) → t s H Q
end
end CW
/-! CwRules: one lemma a construct. -/
namespace CW
open PySem L2
section
variable {K : FR} {c : Ctx K} {W : Wld K} {a0 a a1 : c.W.A} {g g1 : c.W.G} {F0 H0 F H F1 H1 : Hp} {s : L2.St} {r : Env}

theorem line_of {n : Nat} (h : n ≤ 100000) : n ≤ sizeLine := Nat.le_trans h (by decide)
theorem line_lt {n : Nat} (h : n < 100000) : n < sizeLine := Nat.lt_of_lt_of_le h (by decide)

/-- from where the second begins to where the first began -/
theorem PostE.from {Q : VK} {x : R Vl c.W.G} (e : Ext c.W a F H a1 F1 H1) (p : PostE c a F H s Q x) : PostE c a1 F1 H1 s Q x := by
  cases x with
  | ok v g' => exact fun a' F' H' x e' t i n => p a' F' H' x (e.trans e') t i (n.back e.al)
  | er er g' => exact fun a' F' H' C d e' t i => p a' F' H' C d (e.trans e') t i
  | no => exact p
theorem PostT.from {Q : Bool → Hp → Prop} {x : R Bool c.W.G} (e : Ext c.W a F H a1 F1 H1) (p : PostT c a F H s Q x) : PostT c a1 F1 H1 s Q x := by
  cases x with
  | ok v g' => exact fun a' F' H' e' t => p a' F' H' (e.trans e') t
  | er er g' => exact fun a' F' H' C d e' t i => p a' F' H' C d (e.trans e') t i
  | no => exact p

/-! ### names, constants -/
theorem so_var (i : Nat) : SoundE c (tVar i) (sV i) := by
  intro a0 F0 H0 a g F H s r Q rp post
  unfold sV at post
  cases h : r[i]? with
  | none => rw [h] at post; exact post.elim
  | some o =>
    cases o with
    | none => rw [h] at post; exact post.elim
    | some v =>
      obtain ⟨x, h1, h2⟩ := rp.slot i v h
      rw [h] at post
      refine ⟨x, h1, ?_⟩
      cases v with
      | own l => exact post a F H x (Ext.refl rp.sub) rp.at_ h2 True.intro
      | lent l => exact post a F H x (Ext.refl rp.sub) rp.at_ h2 True.intro
      | dat d => exact post a F H x (Ext.refl rp.sub) rp.at_ h2 True.intro
      | tok n => exact post a F H x (Ext.refl rp.sub) rp.at_ h2 True.intro
theorem so_c {x : V} {d : PyData} (h : ∀ F : Hp, Dp K F x d) : SoundE c (tC x) (sC d) := fun _ _ _ a _ F H _ _ _ rp post => post a F H x (Ext.refl rp.sub) rp.at_ (h F) True.intro

/-! ### operators -/
def SoundR (c : Ctx K) (r : R2) (f : Vl → Vl → Option Vl) : Prop := ∀ (a : c.W.A) (g : c.W.G) (F H : Hp) (x y : V) (u v w : Vl) (Q : VK), (∀ b o, F b = some o → H b = some o) → c.W.at_ a g F H → IsV c.W a F H x u → IsV c.W a F H y v → f u v = some w →
  (∀ F' H' z, PExt F H F' H' → IsV c.W a F' H' z w → IsN H z w → Q z H') → r x y H Q
def SoundU (c : Ctx K) (r : V → Hp → VK → Prop) (f : Vl → Option Vl) : Prop := ∀ (a : c.W.A) (g : c.W.G) (F H : Hp) (x : V) (u w : Vl) (Q : VK), (∀ b o, F b = some o → H b = some o) → c.W.at_ a g F H → IsV c.W a F H x u → f u = some w →
  (∀ F' H' z, PExt F H F' H' → IsV c.W a F' H' z w → IsN H z w → Q z H') → r x H Q
theorem so_op {r2 : R2} {f : Vl → Vl → Option Vl} {ta tb : TE} {ma mb : ME c.W.G} (hr : SoundR c r2 f) (ha : SoundE c ta ma) (hb : SoundE c tb mb) : SoundE c (tOp r2 ta tb) (sOp f ma mb) := by
  intro a0 F0 H0 a g F H s r Q rp post
  refine ha _ _ _ _ _ _ _ _ _ _ rp ?_
  unfold sOp at post
  cases h : ma r g with
  | no => rw [h] at post; exact post
  | er e g1 => rw [h] at post; exact post
  | ok u g1 =>
    rw [h] at post
    intro a1 F1 H1 x e1 t1 i1 n1
    have rp1 := rp.step e1 t1
    refine hb _ _ _ _ _ _ _ _ _ _ rp1 ?_
    simp only [R.bind_ok] at post
    cases h2 : mb r g1 with
    | no => rw [h2] at post; exact post
    | er e g2 => rw [h2] at post; exact PostE.from (x := .er e g2) e1 post
    | ok v g2 =>
      rw [h2] at post
      simp only [R.bind_ok] at post
      intro a2 F2 H2 y e2 t2 i2 n2
      cases hf : f u v with
      | none => rw [hf] at post; exact post.elim
      | some w =>
        rw [hf] at post
        refine hr a2 g2 F2 H2 x y u v w Q e2.fh t2 (i1.step e2) i2 hf fun F3 H3 z e3 i3 n3 => ?_
        have ee := (e1.trans e2).trans (Ext.of e2.fh e3)
        exact post a2 F3 H3 z ee (at_of t2 e3) i3 (n3.back (e1.trans e2).al)
theorem so_un {r1 : V → Hp → VK → Prop} {f : Vl → Option Vl} {ta : TE} {ma : ME c.W.G} (hr : SoundU c r1 f) (ha : SoundE c ta ma) : SoundE c (tUn r1 ta) (sUn f ma) := by
  intro a0 F0 H0 a g F H s r Q rp post
  refine ha _ _ _ _ _ _ _ _ _ _ rp ?_
  unfold sUn at post
  cases h : ma r g with
  | no => rw [h] at post; exact post
  | er e g1 => rw [h] at post; exact post
  | ok u g1 =>
    rw [h] at post
    simp only [R.bind_ok] at post
    intro a1 F1 H1 x e1 t1 i1 n1
    cases hf : f u with
    | none => rw [hf] at post; exact post.elim
    | some w =>
      rw [hf] at post
      refine hr a1 g1 F1 H1 x u w Q e1.fh t1 i1 hf fun F3 H3 z e3 i3 n3 => ?_
      exact post a1 F3 H3 z (e1.trans (Ext.of e1.fh e3)) (at_of t1 e3) i3 (n3.back e1.al)

/-! ### argument lists, displays -/
theorem AreV.step {H0 : Hp} {xs : List V} {vs : List Vl} (h : AreV c.W a F H H0 xs vs) (e : Ext c.W a F H a1 F1 H1) : AreV c.W a1 F1 H1 H0 xs vs := by
  induction h with
  | nil => exact .nil
  | cons i n d _ ih => exact .cons (i.step e) n d ih
theorem AreV.back {Hs Ht : Hp} {xs : List V} {vs : List Vl} (h : AreV c.W a F H Ht xs vs) (e : ∀ b, Hs b ≠ none → Ht b ≠ none) : AreV c.W a F H Hs xs vs := by
  induction h with
  | nil => exact .nil
  | cons i n d _ ih => exact .cons i (n.back e) d ih
theorem so_nil : SoundA c tNil sNil := fun _ _ _ a _ F H _ _ _ rp post => post a F H [] (Ext.refl rp.sub) rp.at_ .nil
theorem AreV.isN {Hs : Hp} : ∀ {xs : List V} {vs : List Vl}, AreV c.W a F H Hs xs vs → ∀ (j : Nat) (m : List PyData) (q : Addr), vs[j]? = some (.own m) → xs[j]? = some (.ref q) → Hs q = none
  | _, _, .nil, _, _, _, h, _ => by simp at h
  | _, _, .cons i n d t, 0, m, q, h, h2 => by
    simp at h h2; subst h; subst h2
    obtain ⟨p, e, z⟩ := n
    cases e; exact z
  | _, _, .cons i n d t, j + 1, m, q, h, h2 => t.isN j m q (by simpa using h) (by simpa using h2)
theorem so_cons {ta : TE} {tr : TA} {ma : ME c.W.G} {mr : MA c.W.G} (ha : SoundE c ta ma) (hr : SoundA c tr mr) : SoundA c (tCons ta tr) (sCons ma mr) := by
  intro a0 F0 H0 a g F H s r Q rp post
  refine ha _ _ _ _ _ _ _ _ _ _ rp ?_
  unfold sCons at post
  cases h : ma r g with
  | no => rw [h] at post; exact post
  | er e g1 => rw [h] at post; exact post
  | ok u g1 =>
    rw [h] at post
    simp only [R.bind_ok] at post
    intro a1 F1 H1 x e1 t1 i1 n1
    refine hr _ _ _ _ _ _ _ _ _ _ (rp.step e1 t1) ?_
    cases h2 : mr r g1 with
    | no => rw [h2] at post; exact post
    | er e g2 =>
      rw [h2] at post
      exact fun a' F' H' C d e' t i => post a' F' H' C d (e1.trans e') t i
    | ok vs g2 =>
      rw [h2] at post
      simp only [R.bind_ok] at post
      intro a2 F2 H2 xs e2 t2 i2
      refine post a2 F2 H2 (x :: xs) (e1.trans e2) t2 (.cons (i1.step e2) n1 (fun p l hv hx j m hj hq => ?_) (i2.back e1.al))
      subst hv
      obtain ⟨q, ys, eq, hq', _⟩ := i1
      rw [hx] at eq
      cases eq
      have := i2.isN j m p hj hq
      rw [this] at hq'
      cases hq'
open Classical in
/-- all that came new since H is let go -/
noncomputable def letGo (reg : Addr → Prop) (H F1 H1 : Hp) : Hp := fun b => if F1 b = none ∧ H b = none ∧ ¬ reg b then H1 b else F1 b
theorem letGo_ff {reg : Addr → Prop} {H F1 H1 : Hp} (b : Addr) (o : HO) (h : F1 b = some o) : letGo reg H F1 H1 b = some o := by
  unfold letGo
  rw [if_neg (by rw [h]; simp)]
  exact h
theorem letGo_fh {reg : Addr → Prop} {H F1 H1 : Hp} (s : ∀ b o, F1 b = some o → H1 b = some o) (b : Addr) (o : HO) (h : letGo reg H F1 H1 b = some o) : H1 b = some o := by
  unfold letGo at h
  split at h
  · exact h
  · exact s b o h
theorem letGo_ext (e : Ext c.W a F H a1 F1 H1) : Ext c.W a F H a1 (letGo (c.W.reg a1) H F1 H1) H1 where
  ff := fun b o h => letGo_ff b o (e.ff b o h)
  fh := letGo_fh e.fh
  st := fun b h f n => by
    obtain ⟨x, y, z⟩ := e.st b h f n
    refine ⟨?_, y, z⟩
    unfold letGo
    rw [if_neg (fun q => h q.2.1)]
    exact x
  rg := fun b h f n => by
    unfold letGo
    rw [if_neg (fun q => h q.2.1)]
    exact e.rg b h f n
  al := e.al
  tk := e.tk
theorem letGo_at (e : Ext c.W a F H a1 F1 H1) (t : c.W.at_ a1 g1 F1 H1) : c.W.at_ a1 g1 (letGo (c.W.reg a1) H F1 H1) H1 := c.W.keep t (fun b o h => letGo_ff b o h) fun b h => by
  refine ⟨?_, rfl⟩
  unfold letGo
  rw [if_neg (fun q => q.2.2 h)]
  exact (c.W.off t h).1
theorem frz_dp {x : V} {v : Vl} {d : PyData} (i : IsV c.W a1 F1 H1 x v) (n : IsN H x v) (h : v.frz = some d) : Dp K (letGo (c.W.reg a1) H F1 H1) x d := by
  cases v with
  | dat d' => cases h; exact dp_mono (fun b o h => letGo_ff b o h) _ i
  | tok k => cases h
  | lent l => cases h
  | own l =>
    cases h
    obtain ⟨p, xs, rfl, hp, hd, fp, rp⟩ := i
    obtain ⟨q, e, nq⟩ := n
    cases e
    refine .lst (Rd.of ?_) (dps_mono (fun b o h => letGo_ff b o h) _ hd)
    unfold letGo
    rw [if_pos ⟨fp, nq, rp⟩]
    exact hp
theorem frz_dps : ∀ {xs : List V} {vs : List Vl} {ds : List PyData}, AreV c.W a1 F1 H1 H xs vs → frzAll vs = some ds → DpAll K (letGo (c.W.reg a1) H F1 H1) xs ds
  | _, _, ds, .nil, h => by cases h; exact .nil
  | _, _, ds, .cons (v := v) (vs := vs) i n _ t, h => by
    unfold frzAll at h
    cases h1 : v.frz with
    | none => rw [h1] at h; cases h
    | some d =>
      cases h2 : frzAll vs with
      | none => rw [h1, h2] at h; cases h
      | some es =>
        rw [h1, h2] at h
        cases h
        exact .cons (frz_dp i n h1) (frz_dps t h2)
theorem so_tup {ta : TA} {ma : MA c.W.G} (ha : SoundA c ta ma) : SoundE c (tTup ta) (sTup ma) := by
  intro a0 F0 H0 a g F H s r Q rp post
  refine ha _ _ _ _ _ _ _ _ _ _ rp ?_
  unfold sTup at post
  cases h : ma r g with
  | no => rw [h] at post; exact post
  | er e g1 => rw [h] at post; exact post
  | ok vs g1 =>
    rw [h] at post
    simp only [R.bind_ok] at post
    intro a1 F1 H1 xs e1 t1 i1
    cases h2 : frzAll vs with
    | none => rw [h2] at post; exact post.elim
    | some ds =>
      rw [h2] at post
      simp only at post
      have hd := frz_dps i1 h2
      by_cases hl : ds.length ≤ 100000
      · rw [if_pos hl] at post
        refine ⟨line_of (by rw [dps_len hd]; exact hl), fun p hp => ?_⟩
        have e2 := letGo_ext e1
        have e3 := PExt.new (o := .tup xs) e2.fh hp
        exact post a1 _ _ (.ref p) (e2.trans (Ext.of e2.fh e3)) (at_of (letGo_at e1 t1) e3) (.tup (Rd.of upd_same) (dps_mono e3.ff _ hd)) True.intro
      · rw [if_neg hl] at post; exact post.elim
theorem so_lst {ta : TA} {ma : MA c.W.G} (ha : SoundA c ta ma) : SoundE c (tLst ta) (sLst ma) := by
  intro a0 F0 H0 a g F H s r Q rp post
  refine ha _ _ _ _ _ _ _ _ _ _ rp ?_
  unfold sLst at post
  cases h : ma r g with
  | no => rw [h] at post; exact post
  | er e g1 => rw [h] at post; exact post
  | ok vs g1 =>
    rw [h] at post
    simp only [R.bind_ok] at post
    intro a1 F1 H1 xs e1 t1 i1
    cases h2 : frzAll vs with
    | none => rw [h2] at post; exact post.elim
    | some ds =>
      rw [h2] at post
      simp only at post
      have hd := frz_dps i1 h2
      by_cases hl : ds.length ≤ 100000
      · rw [if_pos hl] at post
        refine ⟨line_of (by rw [dps_len hd]; exact hl), fun p hp => ?_⟩
        have e2 := letGo_ext e1
        have e3 := PExt.own (o := .lst xs) e2.fh hp
        have fp : letGo (c.W.reg a1) H F1 H1 p = none := by
          cases q : letGo (c.W.reg a1) H F1 H1 p with
          | none => rfl
          | some o => rw [e2.fh p o q] at hp; cases hp
        have rp' : ¬ c.W.reg a1 p := fun q => (c.W.off t1 q).2 hp
        refine post a1 _ _ (.ref p) (e2.trans (Ext.of e2.fh e3)) (at_of (letGo_at e1 t1) e3) ⟨p, xs, rfl, upd_same, hd, fp, rp'⟩ ⟨p, rfl, ?_⟩
        exact Classical.byContradiction fun z => e1.al p z hp
      · rw [if_neg hl] at post; exact post.elim

/-! ### built-ins by values -/
def SoundB (c : Ctx K) (r : List V → Hp → VK → Prop) (f : List Vl → Option Vl) : Prop := ∀ (a : c.W.A) (g : c.W.G) (F H : Hp) (Hs : Hp) (xs : List V) (vs : List Vl) (w : Vl) (Q : VK), (∀ b o, F b = some o → H b = some o) → c.W.at_ a g F H → AreV c.W a F H Hs xs vs → f vs = some w →
  (∀ F' H' z, PExt F H F' H' → IsV c.W a F' H' z w → IsN H z w → Q z H') → r xs H Q
theorem so_b {r1 : List V → Hp → VK → Prop} {f : List Vl → Option Vl} {ta : TA} {ma : MA c.W.G} (hr : SoundB c r1 f) (ha : SoundA c ta ma) : SoundE c (tCB r1 ta) (sB f ma) := by
  intro a0 F0 H0 a g F H s r Q rp post
  refine ha _ _ _ _ _ _ _ _ _ _ rp ?_
  unfold sB at post
  cases h : ma r g with
  | no => rw [h] at post; exact post
  | er e g1 => rw [h] at post; exact post
  | ok vs g1 =>
    rw [h] at post
    simp only [R.bind_ok] at post
    intro a1 F1 H1 xs e1 t1 i1
    cases hf : f vs with
    | none => rw [hf] at post; exact post.elim
    | some w =>
      rw [hf] at post
      refine hr a1 g1 F1 H1 H xs vs w Q e1.fh t1 i1 hf fun F3 H3 z e3 i3 n3 => ?_
      exact post a1 F3 H3 z (e1.trans (Ext.of e1.fh e3)) (at_of t1 e3) i3 (n3.back e1.al)

/-! ### tests -/
theorem so_tst {t : TE} {m : ME c.W.G} (h : SoundE c t m) : SoundT c (tTest t) (sTst m) := by
  intro a0 F0 H0 a g F H s r Q rp post
  refine h _ _ _ _ _ _ _ _ _ _ rp ?_
  unfold sTst at post
  cases h : m r g with
  | no => rw [h] at post; exact post
  | er e g1 => rw [h] at post; exact post
  | ok u g1 =>
    rw [h] at post
    simp only [R.bind_ok] at post
    intro a1 F1 H1 x e1 t1 i1 n1
    cases u with
    | dat d =>
      cases d with
      | bool b => cases i1; exact ⟨b, rfl, post a1 F1 H1 e1 t1⟩
      | _ => exact post.elim
    | _ => exact post.elim
theorem so_tB {t : TE} {m : ME c.W.G} (h : SoundE c t m) : SoundT c (tB t) (sTst m) := so_tst h
theorem so_and {t u : TT} {m n : MT c.W.G} (ht : SoundT c t m) (hu : SoundT c u n) : SoundT c (tAnd t u) (sAnd m n) := by
  intro a0 F0 H0 a g F H s r Q rp post
  refine ht _ _ _ _ _ _ _ _ _ _ rp ?_
  unfold sAnd at post
  cases h : m r g with
  | no => rw [h] at post; exact post
  | er e g1 => rw [h] at post; exact post
  | ok b g1 =>
    rw [h] at post
    simp only [R.bind_ok] at post
    intro a1 F1 H1 e1 t1
    cases b with
    | true => exact iteT (hu _ _ _ _ _ _ _ _ _ _ (rp.step e1 t1) (PostT.from e1 (by simpa using post)))
    | false => exact iteF (by exact post a1 F1 H1 e1 t1)
theorem so_or {t u : TT} {m n : MT c.W.G} (ht : SoundT c t m) (hu : SoundT c u n) : SoundT c (tOr t u) (sOr m n) := by
  intro a0 F0 H0 a g F H s r Q rp post
  refine ht _ _ _ _ _ _ _ _ _ _ rp ?_
  unfold sOr at post
  cases h : m r g with
  | no => rw [h] at post; exact post
  | er e g1 => rw [h] at post; exact post
  | ok b g1 =>
    rw [h] at post
    simp only [R.bind_ok] at post
    intro a1 F1 H1 e1 t1
    cases b with
    | false => exact iteF (hu _ _ _ _ _ _ _ _ _ _ (rp.step e1 t1) (PostT.from e1 (by simpa using post)))
    | true => exact iteT (by exact post a1 F1 H1 e1 t1)
theorem so_not {t : TT} {m : MT c.W.G} (ht : SoundT c t m) : SoundT c (tNot t) (sNot m) := by
  intro a0 F0 H0 a g F H s r Q rp post
  refine ht _ _ _ _ _ _ _ _ _ _ rp ?_
  unfold sNot at post
  cases h : m r g with
  | no => rw [h] at post; exact post
  | er e g1 => rw [h] at post; exact post
  | ok b g1 =>
    rw [h] at post
    exact fun a1 F1 H1 e1 t1 => post a1 F1 H1 e1 t1
theorem so_yes : SoundT c tYes sYes := fun _ _ _ a _ F H _ _ _ rp post => post a F H (Ext.refl rp.sub) rp.at_
theorem so_andV {t u : TE} {m n : ME c.W.G} (ht : SoundE c t m) (hu : SoundE c u n) : SoundE c (tAndV t u) (sAndV m n) := by
  intro a0 F0 H0 a g F H s r Q rp post
  refine ht _ _ _ _ _ _ _ _ _ _ rp ?_
  unfold sAndV at post
  cases h : m r g with
  | no => rw [h] at post; exact post
  | er e g1 => rw [h] at post; exact post
  | ok v g1 =>
    rw [h] at post
    simp only [R.bind_ok] at post
    intro a1 F1 H1 x e1 t1 i1 n1
    cases v with
    | dat d =>
      cases d with
      | bool b =>
        cases i1
        refine ⟨b, rfl, ?_⟩
        cases b with
        | true => exact iteT (hu _ _ _ _ _ _ _ _ _ _ (rp.step e1 t1) (PostE.from e1 (by simpa using post)))
        | false => exact iteF (by exact post a1 F1 H1 _ e1 t1 (.bl false) True.intro)
      | _ => exact post.elim
    | _ => exact post.elim
theorem so_orV {t u : TE} {m n : ME c.W.G} (ht : SoundE c t m) (hu : SoundE c u n) : SoundE c (tOrV t u) (sOrV m n) := by
  intro a0 F0 H0 a g F H s r Q rp post
  refine ht _ _ _ _ _ _ _ _ _ _ rp ?_
  unfold sOrV at post
  cases h : m r g with
  | no => rw [h] at post; exact post
  | er e g1 => rw [h] at post; exact post
  | ok v g1 =>
    rw [h] at post
    simp only [R.bind_ok] at post
    intro a1 F1 H1 x e1 t1 i1 n1
    cases v with
    | dat d =>
      cases d with
      | bool b =>
        cases i1
        refine ⟨b, rfl, ?_⟩
        cases b with
        | false => exact iteF (hu _ _ _ _ _ _ _ _ _ _ (rp.step e1 t1) (PostE.from e1 (by simpa using post)))
        | true => exact iteT (by exact post a1 F1 H1 _ e1 t1 (.bl true) True.intro)
      | _ => exact post.elim
    | _ => exact post.elim
theorem so_notV {t : TE} {m : ME c.W.G} (ht : SoundE c t m) : SoundE c (tNotV t) (sNotV m) := by
  intro a0 F0 H0 a g F H s r Q rp post
  refine ht _ _ _ _ _ _ _ _ _ _ rp ?_
  unfold sNotV at post
  cases h : m r g with
  | no => rw [h] at post; exact post
  | er e g1 => rw [h] at post; exact post
  | ok v g1 =>
    rw [h] at post
    simp only [R.bind_ok] at post
    intro a1 F1 H1 x e1 t1 i1 n1
    cases v with
    | dat d =>
      cases d with
      | bool b =>
        cases i1
        exact ⟨b, rfl, post a1 F1 H1 _ e1 t1 (.bl _) True.intro⟩
      | _ => exact post.elim
    | _ => exact post.elim
theorem so_if {t : TT} {m : MT c.W.G} {ta tb : TE} {ma mb : ME c.W.G} (ht : SoundT c t m) (ha : SoundE c ta ma) (hb : SoundE c tb mb) : SoundE c (tIf t ta tb) (sIf m ma mb) := by
  intro a0 F0 H0 a g F H s r Q rp post
  refine ht _ _ _ _ _ _ _ _ _ _ rp ?_
  unfold sIf at post
  cases h : m r g with
  | no => rw [h] at post; exact post
  | er e g1 => rw [h] at post; exact post
  | ok b g1 =>
    rw [h] at post
    simp only [R.bind_ok] at post
    intro a1 F1 H1 e1 t1
    cases b with
    | true => exact iteT (ha _ _ _ _ _ _ _ _ _ _ (rp.step e1 t1) (PostE.from e1 (by simpa using post)))
    | false => exact iteF (hb _ _ _ _ _ _ _ _ _ _ (rp.step e1 t1) (PostE.from e1 (by simpa using post)))
theorem so_chain {r1 r2 : R2} {f f' : Vl → Vl → Option Vl} {ta tb tc : TE} {ma mb mc : ME c.W.G} (h1 : SoundR c r1 f) (h2 : SoundR c r2 f') (ha : SoundE c ta ma) (hb : SoundE c tb mb) (hc : SoundE c tc mc) : SoundE c (tChain r1 r2 ta tb tc) (sChain f f' ma mb mc) := by
  intro a0 F0 H0 a g F H s r Q rp post
  refine ha _ _ _ _ _ _ _ _ _ _ rp ?_
  unfold sChain at post
  cases h : ma r g with
  | no => rw [h] at post; exact post
  | er e g1 => rw [h] at post; exact post
  | ok u g1 =>
    rw [h] at post
    intro a1 F1 H1 x e1 t1 i1 n1
    refine hb _ _ _ _ _ _ _ _ _ _ (rp.step e1 t1) ?_
    simp only [R.bind_ok] at post
    cases hh2 : mb r g1 with
    | no => rw [hh2] at post; exact post
    | er e g2 => rw [hh2] at post; exact PostE.from (x := .er e g2) e1 post
    | ok v g2 =>
      rw [hh2] at post
      simp only [R.bind_ok] at post
      intro a2 F2 H2 y e2 t2 i2 n2
      cases hf : f u v with
      | none => rw [hf] at post; exact post.elim
      | some w =>
        rw [hf] at post
        refine h1 a2 g2 F2 H2 x y u v w _ e2.fh t2 (i1.step e2) i2 hf fun F3 H3 z e3 i3 n3 => ?_
        cases w with
        | dat d =>
          cases d with
          | bool b =>
            cases i3
            refine ⟨b, rfl, ?_⟩
            have ee := (e1.trans e2).trans (Ext.of e2.fh e3)
            cases b with
            | false => exact iteF (by exact post a2 F3 H3 _ ee (at_of t2 e3) (.bl false) True.intro)
            | true =>
              refine iteT (hc _ _ _ _ _ _ _ _ _ _ (rp.step ee (at_of t2 e3)) ?_)
              simp only [if_true] at post
              cases hh3 : mc r g2 with
              | no => rw [hh3] at post; exact post
              | er e g3 => rw [hh3] at post; exact PostE.from (x := .er e g3) ee post
              | ok w3 g3 =>
                rw [hh3] at post
                simp only [R.bind_ok] at post
                intro a4 F4 H4 z e4 t4 i4 n4
                cases hf2 : f' v w3 with
                | none => rw [hf2] at post; exact post.elim
                | some w4 =>
                  rw [hf2] at post
                  refine h2 a4 g3 F4 H4 y z v w3 w4 _ e4.fh t4 ((i2.step (Ext.of e2.fh e3)).step e4) i4 hf2 fun F5 H5 z5 e5 i5 n5 => ?_
                  exact post a4 F5 H5 z5 ((ee.trans e4).trans (Ext.of e4.fh e5)) (at_of t4 e5) i5 (n5.back (ee.trans e4).al)
          | _ => exact post.elim
        | _ => exact post.elim
end
end CW
/-! CwRules2: targets, loops, comprehensions, statements. -/
namespace CW
open PySem L2
section
variable {K : FR} {c : Ctx K} {W : Wld K} {a0 a a1 : c.W.A} {g g1 : c.W.G} {F0 H0 F H F1 H1 : Hp} {s : L2.St} {r : Env}

/-! ### targets -/
/-- a value may be put into a slot -/
def NewTo (H0 : Hp) (s : L2.St) (r : Env) (x : V) : Vl → Prop
  | .own _ => ∃ p, x = .ref p ∧ H0 p = none ∧ ∀ (j : Nat) (m : List PyData), r[j]? = some (some (.own m)) → s[j]? ≠ some (some (.ref p))
  | _ => True
theorem NewTo.of {x : V} {v : Vl} (rp : Rep c.W a0 F0 H0 a g F H s r) (e : Ext c.W a F H a1 F1 H1) (n : IsN H x v) : NewTo H0 s r x v := by
  cases v with
  | own l =>
    obtain ⟨p, rfl, hp⟩ := n
    refine ⟨p, rfl, Classical.byContradiction fun z => rp.ext.al p z hp, fun j m h h2 => ?_⟩
    obtain ⟨x, h3, q, ys, eq, hq, _⟩ := rp.slot j _ h
    rw [h2] at h3
    cases h3
    cases eq
    rw [hp] at hq
    cases hq
  | _ => trivial
def SoundG (c : Ctx K) (t : TG) (m : MG) (sl : List Nat) : Prop := ∀ a0 F0 H0 a g F H s r x v Q, Rep c.W a0 F0 H0 a g F H s r → IsV c.W a F H x v → NewTo H0 s r x v →
  (match m v r with
    | some r' => ∀ s', Rep c.W a0 F0 H0 a g F H s' r' → s'.length = s.length → (∀ i, i ∉ sl → s'[i]? = s[i]?) → Q s' H
    | none => False) → t x s H Q
theorem Rep.set (rp : Rep c.W a0 F0 H0 a g F H s r) {i : Nat} {x : V} {v : Vl} (iv : IsV c.W a F H x v) (n : NewTo H0 s r x v) (nl : ∀ l, v ≠ .lent l) : Rep c.W a0 F0 H0 a g F H (s.set i (some x)) (r.set i (some v)) where
  ext := rp.ext
  at_ := rp.at_
  len := by simp [rp.len]
  slot := fun j w h => by
    by_cases e : i = j
    · subst e
      have hl : i < r.length := by
        have := (List.getElem?_eq_some_iff.mp h).1
        simpa using this
      rw [List.getElem?_set_self hl] at h
      cases h
      exact ⟨x, by rw [List.getElem?_set_self (by rw [rp.len]; exact hl)], iv⟩
    · rw [List.getElem?_set_ne e] at h ⊢
      exact rp.slot j w h
  nol := fun j l h => by
    by_cases e : i = j
    · subst e
      have hl : i < r.length := by
        have := (List.getElem?_eq_some_iff.mp h).1
        simpa using this
      rw [List.getElem?_set_self hl] at h
      cases h
      exact nl l rfl
    · rw [List.getElem?_set_ne e] at h
      exact rp.nol j l h
  own := fun j l p h h2 => by
    by_cases e : i = j
    · subst e
      have hl : i < r.length := by
        have := (List.getElem?_eq_some_iff.mp h).1
        simpa using this
      rw [List.getElem?_set_self hl] at h
      cases h
      rw [List.getElem?_set_self (by rw [rp.len]; exact hl)] at h2
      cases h2
      obtain ⟨q, eq, hq, hd⟩ := n
      cases eq
      refine ⟨hq, fun k m ne hk => ?_⟩
      rw [List.getElem?_set_ne (Ne.symm ne)] at hk ⊢
      exact hd k m hk
    · rw [List.getElem?_set_ne e] at h h2
      obtain ⟨z1, z2⟩ := rp.own j l p h h2
      refine ⟨z1, fun k m ne hk hs => ?_⟩
      by_cases e2 : i = k
      · subst e2
        have hl : i < r.length := by
          have := (List.getElem?_eq_some_iff.mp hk).1
          simpa using this
        rw [List.getElem?_set_self hl] at hk
        cases hk
        rw [List.getElem?_set_self (by rw [rp.len]; exact hl)] at hs
        cases hs
        obtain ⟨q, eq, hq, hd⟩ := n
        cases eq
        exact hd j l h h2
      · rw [List.getElem?_set_ne e2] at hk hs
        exact z2 k m ne hk hs
theorem sg_name (i : Nat) : SoundG c (gName i) (gN i) [i] := by
  intro a0 F0 H0 a g F H s r x v Q rp iv n post
  unfold gN at post
  cases v with
  | lent l => exact post.elim
  | _ =>
    refine post _ (rp.set iv n fun l e => by cases e) (by simp) fun j hj => ?_
    rw [List.getElem?_set_ne (fun e => hj (by simp [e]))]
def SoundGs (c : Ctx K) (t : TGs) (ms : List MG) (sl : List Nat) : Prop := ∀ a0 F0 H0 a g F H s r xs ds Q, Rep c.W a0 F0 H0 a g F H s r → DpAll K F xs ds →
  (match gS ms ds r with
    | some r' => ∀ s', Rep c.W a0 F0 H0 a g F H s' r' → s'.length = s.length → (∀ i, i ∉ sl → s'[i]? = s[i]?) → Q s' H
    | none => False) → t xs s H Q
theorem sg_nil : SoundGs c gNil [] [] := by
  intro a0 F0 H0 a g F H s r xs ds Q rp h post
  cases h with
  | nil => exact ⟨rfl, post s rp rfl fun _ _ => rfl⟩
  | cons h1 h2 => exact post.elim
theorem sg_cons {t : TG} {ts : TGs} {m : MG} {ms : List MG} {sl sls : List Nat} (h1 : SoundG c t m sl) (h2 : SoundGs c ts ms sls) : SoundGs c (gCons t ts) (m :: ms) (sl ++ sls) := by
  intro a0 F0 H0 a g F H s r xs ds Q rp h post
  cases h with
  | nil => exact post.elim
  | cons h3 h4 =>
    refine ⟨_, _, rfl, ?_⟩
    refine h1 _ _ _ _ _ _ _ _ _ _ (.dat _) _ rp h3 True.intro ?_
    unfold gS at post
    split
    · rename_i r' hr
      rw [hr] at post
      intro s' rp' hl hk
      refine h2 _ _ _ _ _ _ _ _ _ _ _ _ rp' h4 ?_
      simp only at post
      split
      · rename_i r2 hr2
        rw [hr2] at post
        exact fun s2 rp2 hl2 hk2 => post s2 rp2 (hl2.trans hl) fun i hi => (hk2 i fun z => hi (List.mem_append_right _ z)).trans (hk i fun z => hi (List.mem_append_left _ z))
      · rename_i hr2
        rw [hr2] at post
        exact post
    · rename_i hr
      rw [hr] at post
      exact post
theorem gS_len : ∀ {ms : List MG} {ds : List PyData} {r r' : Env}, gS ms ds r = some r' → ds.length = ms.length
  | [], [], _, _, _ => rfl
  | [], _ :: _, _, _, h => by simp [gS] at h
  | _ :: _, [], _, _, h => by simp [gS] at h
  | t :: ts, d :: ds, r, r', h => by
    unfold gS at h
    split at h
    · simp [gS_len h]
    · cases h
def gAny (K : FR) (n : Nat) (t : TGs) : TG := fun v s H Q => gTup K n t v s H Q ∨ gLst K n t v s H Q
theorem pg_any {X : Cx} {es : List Expr} {k : Nat} {t : TGs} {n : Nat} {pos : Pos} (hc : X.calm = true) (h : PGs X es t)
    (hn : (assignEach es X.env).length = n := by rfl) (hst : (assignEach es X.env).findIdx? (·.1) = none := by rfl) : PG X (.Tuple es k pos) (gAny X.K n t) :=
  ⟨fun pins s σ H v u Q I r hw => hw.elim ((pg_tup hc h hn hst).run pins s σ H v u Q I r) ((pg_lst hc h hn hst).run pins s σ H v u Q I r)⟩
theorem sg_any {t : TGs} {ms : List MG} {sl : List Nat} {n : Nat} (hn : ms.length = n) (h : SoundGs c t ms sl) : SoundG c (gAny K n t) (gT ms) sl := by
  intro a0 F0 H0 a g F H s r x v Q rp iv _ post
  unfold gT at post
  have len : ∀ {xs : List V} {ds : List PyData}, DpAll K F xs ds → (match gS ms ds r with
    | some r' => True
    | none => False) → xs.length = n := fun {xs ds} hd hp => by
    rw [dps_len hd]
    cases q : gS ms ds r with
    | none => rw [q] at hp; exact hp.elim
    | some r' => rw [gS_len q, hn]
  cases v with
  | dat d =>
    cases d with
    | tuple ds =>
      cases iv with
      | tup h1 h2 =>
        simp only at post
        refine .inl ⟨_, _, rfl, (.inl (rd_mono rp.sub h1)), len h2 ?_, h _ _ _ _ _ _ _ _ _ _ _ _ rp h2 post⟩
        cases q : gS ms ds r with
        | none => rw [q] at post; exact post.elim
        | some r' => trivial
    | list ds =>
      cases iv with
      | lst h1 h2 =>
        simp only at post
        refine .inr ⟨_, _, rfl, (.inl (rd_mono rp.sub h1)), len h2 ?_, h _ _ _ _ _ _ _ _ _ _ _ _ rp h2 post⟩
        cases q : gS ms ds r with
        | none => rw [q] at post; exact post.elim
        | some r' => trivial
    | _ => exact post.elim
  | own ds =>
    obtain ⟨p, xs, rfl, hp, h2, _⟩ := iv
    simp only at post
    refine .inr ⟨_, _, rfl, .inl (.inl hp), len h2 ?_, h _ _ _ _ _ _ _ _ _ _ _ _ rp h2 post⟩
    cases q : gS ms ds r with
    | none => rw [q] at post; exact post.elim
    | some r' => trivial
  | _ => exact post.elim

/-! ### what is walked -/
def Wk (K : FR) (J : It) (items : List PyData) (F : Hp) : Prop := ∃ (G : Hp → Prop) (Y : Nat → Hp → V → Hp → Prop), Walk J items.length G Y ∧
  (∀ F2 H2 : Hp, (∀ b o, F b = some o → F2 b = some o) → (∀ b o, F2 b = some o → H2 b = some o) → G H2) ∧
  ∀ (i : Nat) (F2 H2 : Hp) (x : V) (H3 : Hp), (∀ b o, F b = some o → F2 b = some o) → (∀ b o, F2 b = some o → H2 b = some o) → Y i H2 x H3 → i < items.length → ∃ F3 d, PExt F2 H2 F3 H3 ∧ items[i]? = some d ∧ Dp K F3 x d
def PostI (c : Ctx K) (a : c.W.A) (F H : Hp) (s : L2.St) (Rk : It → Hp → Prop) : CW.R (List PyData) c.W.G → Prop
  | .ok items g' => ∀ a' F' H' J, Ext c.W a F H a' F' H' → c.W.at_ a' g' F' H' → Wk K J items F' → Rk J H'
  | .er e g' => ∀ a' F' H' C d, Ext c.W a F H a' F' H' → c.W.at_ a' g' F' H' → ErrAt c.mg e C d H' → c.Wx C d s H'
  | .no => False
def SoundI (c : Ctx K) (t : TI) (m : MI c.W.G) : Prop := ∀ a0 F0 H0 a g F H s r Rk, Rep c.W a0 F0 H0 a g F H s r → PostI c a F H s Rk (m r g) → t s H Rk
theorem wk_list {p : Addr} {xs : List V} {items : List PyData} (h : SqL K F p xs) (hd : DpAll K F xs items) : Wk K (Itl K p) items F := by
  refine ⟨fun H => SqL K H p xs, YAt xs, ?_, fun F2 H2 e1 e2 => sql_mono e2 (sql_mono e1 h), fun i F2 H2 x H3 e1 e2 y hi => ?_⟩
  · rw [← dps_len hd]
    exact walk_list
  · obtain ⟨rfl, hx⟩ := y
    obtain ⟨v, h1, h2⟩ := dps_at (d := items[i]) hd (List.getElem?_eq_getElem hi)
    rw [hx] at h1
    cases h1
    exact ⟨F2, items[i], PExt.refl e2, List.getElem?_eq_getElem hi, dp_mono e1 _ h2⟩
theorem wk_tup {p : Addr} {xs : List V} {items : List PyData} (h : SqT K F p xs) (hd : DpAll K F xs items) : Wk K (Itt K p) items F := by
  refine ⟨fun H => SqT K H p xs, YAt xs, ?_, fun F2 H2 e1 e2 => sqt_mono e2 (sqt_mono e1 h), fun i F2 H2 x H3 e1 e2 y hi => ?_⟩
  · rw [← dps_len hd]
    exact walk_tup
  · obtain ⟨rfl, hx⟩ := y
    obtain ⟨v, h1, h2⟩ := dps_at (d := items[i]) hd (List.getElem?_eq_getElem hi)
    rw [hx] at h1
    cases h1
    exact ⟨F2, items[i], PExt.refl e2, List.getElem?_eq_getElem hi, dp_mono e1 _ h2⟩
theorem rngL_at {lo : Int} {n i : Nat} (h : i < n) : (rngL lo n)[i]? = some (.int (lo + (i : Nat))) := by
  unfold rngL
  simp [h]
theorem rngL_len {lo : Int} {n : Nat} : (rngL lo n).length = n := by simp [rngL]
theorem wk_range {lo : Int} {n : Nat} : Wk K (Itr lo n) (rngL lo n) F := by
  refine ⟨fun _ => True, YFn fun i => .int (lo + i), ?_, fun _ _ _ _ => True.intro, fun i F2 H2 x H3 e1 e2 y hi => ?_⟩
  · rw [rngL_len]
    exact walk_range
  · obtain ⟨rfl, rfl⟩ := y
    rw [rngL_len] at hi
    exact ⟨F2, _, PExt.refl e2, rngL_at hi, .int _⟩
def iAny (K : FR) (t : TE) : TI := fun s H Rk => t s H fun x H1 => (∃ p, x = .ref p ∧ (∃ xs, SqL K H1 p xs) ∧ Rk (Itl K p) H1) ∨ ∃ p, x = .ref p ∧ (∃ xs, SqT K H1 p xs) ∧ Rk (Itt K p) H1
theorem pi_any {X : Cx} {tg l : Expr} {tl : TE} (hl : PE X l tl) : PI X tg l (iAny X.K tl) := by
  refine ⟨fun pins s σ H R I h => ?_⟩
  refine thn (hl.run pins s σ H _ I h) fun v s1 ⟨x, H1, I1, r1, q1⟩ => ?_
  rcases q1 with ⟨a, e, ⟨xs, hq⟩, q⟩ | ⟨a, e, ⟨xs, hq⟩, q⟩
  · subst e
    cases r1
    obtain ⟨its, rv, p, hz⟩ := I1.list hq
    refine wpAny_pyIter_list p.isList ?_
    refine ⟨s1.heap.objs.size, [s1.heap.objs.size], _, _, H1, rfl, I1.kept (t' := s1.toks) fun b o e => Heap.get?_push_of_some _ e, turn_list a _, ⟨_, Heap.get?_push_size _ rfl, rfl, rfl⟩, fun b hb => ?_, q⟩
    have e : b = s1.heap.objs.size := by simpa using hb
    subst e
    exact I1.fpOk (Nat.le_refl _) (I1.hok.fresh (Nat.le_refl _))
  · subst e
    cases r1
    obtain ⟨its, rv, p, hz⟩ := I1.tuple hq
    refine wpAny_pyIter_tuple (show s1.heap.IsTuple a its.toArray from p) ?_
    refine ⟨s1.heap.objs.size, [s1.heap.objs.size], _, _, H1, rfl, I1.kept (t' := s1.toks) fun b o e => Heap.get?_push_of_some _ e, turn_tuple a _, ⟨_, Heap.get?_push_size _ rfl, rfl, rfl⟩, fun b hb => ?_, q⟩
    have e : b = s1.heap.objs.size := by simpa using hb
    subst e
    exact I1.fpOk (Nat.le_refl _) (I1.hok.fresh (Nat.le_refl _))
theorem si_seq {t : TE} {m : ME c.W.G} (h : SoundE c t m) : SoundI c (iAny K t) (iSeq m) := by
  intro a0 F0 H0 a g F H s r Rk rp post
  refine h _ _ _ _ _ _ _ _ _ _ rp ?_
  unfold iSeq at post
  cases h : m r g with
  | no => rw [h] at post; exact post
  | er e g1 => rw [h] at post; exact post
  | ok u g1 =>
    rw [h] at post
    simp only [R.bind_ok] at post
    intro a1 F1 H1 x e1 t1 i1 n1
    cases u with
    | tok n => exact post.elim
    | lent l => exact post.elim
    | dat d =>
      cases d with
      | list l =>
        cases i1 with
        | lst h1 h2 => exact .inl ⟨_, rfl, ⟨_, (.inl (rd_mono e1.fh h1))⟩, post a1 F1 H1 _ e1 t1 (wk_list (.inl h1) h2)⟩
      | tuple l =>
        cases i1 with
        | tup h1 h2 => exact .inr ⟨_, rfl, ⟨_, (.inl (rd_mono e1.fh h1))⟩, post a1 F1 H1 _ e1 t1 (wk_tup (.inl h1) h2)⟩
      | _ => exact post.elim
    | own l =>
      have hd := frz_dp (H := H) i1 n1 (show (Vl.own l).frz = some (.list l) from rfl)
      have e2 := letGo_ext e1
      obtain ⟨p, xs, rfl, hp, _⟩ := i1
      cases hd with
      | lst h1 h2 => exact .inl ⟨_, rfl, ⟨_, (.inl (rd_mono e2.fh h1))⟩, post a1 _ H1 _ e2 (letGo_at e1 t1) (wk_list (.inl h1) h2)⟩
theorem si_rng1 {t : TE} {m : ME c.W.G} (h : SoundE c t m) : SoundI c (L2.iRng1 (tCons t tNil)) (iRng1 m) := by
  intro a0 F0 H0 a g F H s r Rk rp post
  refine h _ _ _ _ _ _ _ _ _ _ rp ?_
  unfold iRng1 at post
  cases h : m r g with
  | no => rw [h] at post; exact post
  | er e g1 => rw [h] at post; exact post
  | ok u g1 =>
    rw [h] at post
    simp only [R.bind_ok] at post
    intro a1 F1 H1 x e1 t1 i1 n1
    cases u with
    | dat d =>
      cases d with
      | int j =>
        cases i1
        simp only at post
        by_cases hj : inRng j = true
        · rw [if_pos hj] at post
          rw [inRng_iff] at hj
          exact ⟨j, rfl, by omega, by omega, post a1 F1 H1 _ e1 t1 wk_range⟩
        · rw [if_neg hj] at post; exact post.elim
      | _ => exact post.elim
    | _ => exact post.elim
theorem si_rng2 {t u : TE} {m n : ME c.W.G} (ht : SoundE c t m) (hu : SoundE c u n) : SoundI c (L2.iRng2 (tCons t (tCons u tNil))) (iRng2 m n) := by
  intro a0 F0 H0 a g F H s r Rk rp post
  refine ht _ _ _ _ _ _ _ _ _ _ rp ?_
  unfold iRng2 at post
  cases h : m r g with
  | no => rw [h] at post; exact post
  | er e g1 => rw [h] at post; exact post
  | ok v g1 =>
    rw [h] at post
    simp only [R.bind_ok] at post
    intro a1 F1 H1 x e1 t1 i1 n1
    refine hu _ _ _ _ _ _ _ _ _ _ (rp.step e1 t1) ?_
    cases h2 : n r g1 with
    | no => rw [h2] at post; exact post
    | er e g2 =>
      rw [h2] at post
      exact fun a' F' H' C d e' t i => post a' F' H' C d (e1.trans e') t i
    | ok w g2 =>
      rw [h2] at post
      simp only [R.bind_ok] at post
      intro a2 F2 H2 y e2 t2 i2 n2
      cases v with
      | dat d =>
        cases d with
        | int i =>
          cases w with
          | dat d =>
            cases d with
            | int j =>
              cases i1
              cases i2
              simp only at post
              by_cases hj : inRng i = true ∧ inRng j = true
              · rw [if_pos hj] at post
                rw [inRng_iff, inRng_iff] at hj
                exact ⟨i, j, rfl, by omega, post a2 F2 H2 _ (e1.trans e2) t2 wk_range⟩
              · rw [if_neg hj] at post; exact post.elim
            | _ => exact post.elim
          | _ => exact post.elim
        | _ => exact post.elim
      | _ => exact post.elim
theorem si_str {t : TE} {m : ME c.W.G} (h : SoundE c t m) : SoundI c (L2.iStr t) (iStr m) := by
  intro a0 F0 H0 a g F H s r Rk rp post
  refine h _ _ _ _ _ _ _ _ _ _ rp ?_
  unfold iStr at post
  cases h : m r g with
  | no => rw [h] at post; exact post
  | er e g1 => rw [h] at post; exact post
  | ok u g1 =>
    rw [h] at post
    simp only [R.bind_ok] at post
    intro a1 F1 H1 x e1 t1 i1 n1
    cases u with
    | dat d =>
      cases d with
      | str z =>
        cases i1
        refine ⟨z, rfl, post a1 F1 H1 _ e1 t1 ⟨fun _ => True, fun i H v H' => H' = H ∧ ∃ c, z.cps[i]? = some c ∧ v = .str ⟨#[c]⟩, ?_, fun _ _ _ _ => True.intro, fun i F2 H2 x H3 q1 q2 y hi => ?_⟩⟩
        · have e : (signs z).length = z.cps.size := by simp [signs]
          rw [e]
          exact walk_str
        · obtain ⟨rfl, ch, hc, rfl⟩ := y
          refine ⟨F2, .str ⟨#[ch]⟩, PExt.refl q2, ?_, .str _⟩
          unfold signs
          rw [List.getElem?_map]
          have : z.cps.toList[i]? = some ch := by simpa using hc
          rw [this]
          rfl
      | _ => exact post.elim
    | _ => exact post.elim
end
end CW
/-! CwRules3: comprehensions, statements. -/
namespace CW
open PySem L2
section
variable {K : FR} {c : Ctx K} {W : Wld K} {a0 a a1 : c.W.A} {g g1 : c.W.G} {F0 H0 F H F1 H1 : Hp} {s : L2.St} {r : Env}

/-! ### comprehensions -/
theorem wipe_len : ∀ (r : Env) (vs : List Nat), (CW.wipe r vs).length = r.length
  | _, [] => rfl
  | r, v :: vs => by unfold CW.wipe; rw [List.length_set, wipe_len r vs]
theorem wipe_get : ∀ (r : Env) (vs : List Nat) (i : Nat) (v : Vl), (CW.wipe r vs)[i]? = some (some v) → r[i]? = some (some v) ∧ i ∉ vs
  | _, [], _, _, h => ⟨h, by simp⟩
  | r, w :: vs, i, v, h => by
    unfold CW.wipe at h
    by_cases e : w = i
    · subst e
      have hl : w < (CW.wipe r vs).length := by
        have := (List.getElem?_eq_some_iff.mp h).1
        simpa using this
      rw [List.getElem?_set_self hl] at h
      cases h
    · rw [List.getElem?_set_ne e] at h
      obtain ⟨h1, h2⟩ := wipe_get r vs i v h
      exact ⟨h1, by simp [h2, Ne.symm e]⟩
theorem wipeS_ne : ∀ (s : L2.St) (vs : List Nat) (i : Nat), i ∉ vs → (L2.wipe s vs)[i]? = s[i]?
  | _, [], _, _ => rfl
  | s, w :: vs, i, h => by
    unfold L2.wipe
    rw [List.getElem?_set_ne (fun e => h (by simp [e]))]
    exact wipeS_ne s vs i fun z => h (List.mem_cons_of_mem _ z)
theorem wipeS_in : ∀ (s : L2.St) (vs : List Nat) (i : Nat), i ∈ vs → i < s.length → (L2.wipe s vs)[i]? = some none
  | _, [], _, h, _ => by simp at h
  | s, w :: vs, i, h, hl => by
    unfold L2.wipe
    by_cases e : w = i
    · subst e
      rw [List.getElem?_set_self (by rw [L2.wipe_length]; exact hl)]
    · rw [List.getElem?_set_ne e]
      exact wipeS_in s vs i (by simpa [Ne.symm e] using h) hl
theorem wipe_again {s s' : L2.St} {vs : List Nat} (hl : s'.length = (L2.wipe s vs).length) (hk : ∀ i, i ∉ vs → s'[i]? = (L2.wipe s vs)[i]?) : L2.wipe s' vs = L2.wipe s vs := by
  apply List.ext_getElem?
  intro i
  by_cases h : i ∈ vs
  · by_cases hi : i < s.length
    · rw [wipeS_in s' vs i h (by rw [hl, L2.wipe_length]; exact hi), wipeS_in s vs i h hi]
    · rw [List.getElem?_eq_none (by rw [L2.wipe_length, hl, L2.wipe_length]; omega), List.getElem?_eq_none (by rw [L2.wipe_length]; omega)]
  · rw [wipeS_ne s' vs i h, hk i h]
theorem Rep.wipe (rp : Rep c.W a0 F0 H0 a g F H s r) (vs : List Nat) : Rep c.W a0 F0 H0 a g F H (L2.wipe s vs) (CW.wipe r vs) where
  ext := rp.ext
  at_ := rp.at_
  len := by rw [L2.wipe_length, wipe_len, rp.len]
  slot := fun i v h => by
    obtain ⟨h1, h2⟩ := wipe_get r vs i v h
    rw [wipeS_ne s vs i h2]
    exact rp.slot i v h1
  nol := fun i l h => rp.nol i l (wipe_get r vs i _ h).1
  own := fun i l p h h2 => by
    obtain ⟨h1, h3⟩ := wipe_get r vs i _ h
    rw [wipeS_ne s vs i h3] at h2
    obtain ⟨z1, z2⟩ := rp.own i l p h1 h2
    refine ⟨z1, fun j m ne hj hs => ?_⟩
    obtain ⟨h4, h5⟩ := wipe_get r vs j _ hj
    rw [wipeS_ne s vs j h5] at hs
    exact z2 j m ne h4 hs
/-- nothing is raised here -/
abbrev Ctx.calm (c : Ctx K) : Ctx K := { c with Wx := fun _ _ _ _ => False }
theorem so_lc {wi : TI} {it : MI c.W.G} {tg : TG} {mg : MG} {sl : List Nat} {tt : TT} {mt : MT c.W.G} {te : TE} {me : ME c.W.G} {vs : List Nat} (hi : SoundI c wi it) (hg : SoundG c.calm tg mg sl) (hsl : ∀ i ∈ sl, i ∈ vs) (ht : SoundT c.calm tt mt) (he : SoundE c.calm te me) :
    SoundE c (tLc wi tg tt te vs) (sLc it mg mt me vs) := by
  intro a0 F0 H0 a g F H s r Q rp post
  refine hi _ _ _ _ _ _ _ _ _ _ rp ?_
  unfold sLc at post
  cases h : it r g with
  | no => rw [h] at post; exact post
  | er e g1 => rw [h] at post; exact post
  | ok items g1 =>
    rw [h] at post
    simp only [R.bind_ok] at post
    have hlen : items.length ≤ 1000000 := Classical.byContradiction fun hn => by
      rw [if_neg hn] at post
      exact post
    rw [if_pos hlen] at post
    intro a1 F1 H1 J e1 t1 wk Dl hD
    obtain ⟨G, Y, w, hG, hY⟩ := wk
    cases hgo : lcGo (CW.wipe r vs) mg mt me items [] g1 with
    | no => rw [hgo] at post; exact post.elim
    | er e g2 => rw [hgo] at post; exact post.elim
    | ok res g2 =>
      rw [hgo] at post
      simp only at post
      have rD : ¬ c.W.reg a1 Dl := fun q => (c.W.off t1 q).2 hD
      have fD : F1 Dl = none := by
        cases q : F1 Dl with
        | none => rfl
        | some o => rw [e1.fh Dl o q] at hD; cases hD
      refine lc_it w (fun i H2 => ∃ (a2 : c.W.A) (g' : c.W.G) (F2 : Hp) (xs : List V) (acc : List PyData), Ext c.W a F H a2 F2 H2 ∧ c.W.at_ a2 g' F2 H2 ∧ (∀ b o, F1 b = some o → F2 b = some o) ∧ F2 Dl = none ∧ ¬ c.W.reg a2 Dl ∧ H2 Dl = some (.lst xs) ∧ DpAll K F2 xs acc ∧ acc.length ≤ i ∧
        lcGo (CW.wipe r vs) mg mt me (items.drop i) acc g' = .ok res g2) ?_ ?_ ?_ ?_
      · have e3 := PExt.own (o := .lst []) e1.fh hD
        exact ⟨a1, g1, F1, [], [], e1.trans (Ext.of e1.fh e3), at_of t1 e3, fun _ _ z => z, fD, rD, upd_same, .nil, Nat.zero_le _, hgo⟩
      · rintro i H2 hi ⟨a2, g', F2, xs, acc, e2, _, f2, _⟩
        exact hG F2 H2 f2 e2.fh
      · rintro i x H2 H3 hi ⟨a2, g', F2, xs, acc, e2, t2, f2, fD2, rD2, hD2, hd, hl, go⟩ y
        obtain ⟨F3, d, e3, hit, hx⟩ := hY i F2 H2 x H3 f2 e2.fh y hi
        have hdrop : items.drop i = d :: items.drop (i + 1) := by
          rw [List.drop_eq_getElem_cons hi]
          rw [List.getElem?_eq_getElem hi] at hit
          rw [Option.some.inj hit]
        rw [hdrop] at go
        unfold lcGo at go
        have e23 := e2.trans (Ext.of e2.fh e3)
        have t3 := at_of t2 e3
        have hD3 : F3 Dl = none ∧ H3 Dl = some (.lst xs) := by
          obtain ⟨q1, q2⟩ := e3.st Dl (by rw [hD2]; simp) fD2
          exact ⟨q1, q2.trans hD2⟩
        have hd3 := dps_mono e3.ff acc hd
        have rp3 := (rp.step e23 t3).wipe vs
        refine hg _ _ _ _ _ _ _ _ _ _ (.dat d) _ rp3 hx True.intro ?_
        cases htg : mg (.dat d) (CW.wipe r vs) with
        | none => rw [htg] at go; cases go
        | some r' =>
          rw [htg] at go
          simp only at go ⊢
          intro s' rp' hl' hk'
          refine ⟨wipe_again hl' (fun j hj => hk' j fun z => hj (hsl j z)), ?_⟩
          refine ht _ _ _ _ _ _ _ _ _ _ rp' ?_
          cases hmt : mt r' g' with
          | no => rw [hmt] at go; cases go
          | er e g3 => rw [hmt] at go; cases go
          | ok b g3 =>
            rw [hmt] at go
            intro a4 F4 H4 e4 t4
            have keepD : ∀ {a5 : c.W.A} {F5 H5 : Hp}, Ext c.W a2 F3 H3 a5 F5 H5 → F5 Dl = none ∧ H5 Dl = some (.lst xs) ∧ ¬ c.W.reg a5 Dl := fun {a5 F5 H5} e => by
              obtain ⟨q1, q2, q3⟩ := e.st Dl (by rw [hD3.2]; simp) hD3.1 rD2
              exact ⟨q1, q2.trans hD3.2, q3⟩
            cases b with
            | false =>
              refine iteF ?_
              obtain ⟨q1, q2, q3⟩ := keepD e4
              exact ⟨a4, g3, F4, xs, acc, e23.trans e4, t4, fun b o z => e4.ff b o (e3.ff b o (f2 b o z)), q1, q3, q2, dps_mono e4.ff acc hd3, Nat.le_succ_of_le hl, go⟩
            | true =>
              refine iteT ?_
              refine he _ _ _ _ _ _ _ _ _ _ (rp'.step e4 t4) ?_
              simp only at go
              cases hme : me r' g3 with
              | no => rw [hme] at go; cases go
              | er e g4 => rw [hme] at go; cases go
              | ok v g4 =>
                rw [hme] at go
                simp only at go
                intro a5 F5 H5 z e5 t5 i5 n5
                cases hv : v.frz with
                | none => rw [hv] at go; cases go
                | some dz =>
                  rw [hv] at go
                  simp only at go
                  have hz := frz_dp (H := H4) i5 n5 hv
                  have e6 := letGo_ext e5
                  have t6 := letGo_at e5 t5
                  obtain ⟨q1, q2, q3⟩ := keepD (e4.trans e6)
                  have hd6 := dps_mono (e4.trans e6).ff acc hd3
                  refine ⟨xs, q2, ?_, a5, g4, _, xs ++ [z], acc ++ [dz], ?_, ?_, fun b o z => (e4.trans e6).ff b o (e3.ff b o (f2 b o z)), q1, q3, upd_same, dps_app hd6 (.cons hz .nil), by simp; omega, go⟩
                  · rw [dps_len hd6]
                    exact Nat.lt_of_le_of_lt (Nat.le_trans (Nat.le_trans hl (Nat.le_of_lt hi)) hlen) (by decide)
                  · have e7 : Ext c.W a F H a5 (letGo (c.W.reg a5) H4 F5 H5) H5 := (e23.trans e4).trans e6
                    have hDn : H Dl = none := Classical.byContradiction fun z => e1.al Dl z hD
                    refine ⟨e7.ff, fun b o z => ?_, fun b z f n => ?_, e7.rg, fun b z => ?_, e7.tk⟩
                    · by_cases eb : b = Dl
                      · subst eb
                        rw [q1] at z
                        cases z
                      · rw [upd_ne eb]
                        exact e7.fh b o z
                    · have eb : b ≠ Dl := fun eb => by subst eb; exact z hDn
                      obtain ⟨z1, z2, z3⟩ := e7.st b z f n
                      exact ⟨z1, by rw [upd_ne eb]; exact z2, z3⟩
                    · by_cases eb : b = Dl
                      · subst eb
                        rw [upd_same]
                        simp
                      · rw [upd_ne eb]
                        exact e7.al b z
                  · exact c.W.keep t6 (fun _ _ z => z) fun b z => ⟨(c.W.off t6 z).1, upd_ne fun eb => by subst eb; exact q3 z⟩
      · rintro H2 ⟨a2, g', F2, xs, acc, e2, t2, f2, fD2, rD2, hD2, hd, hl, go⟩
        rw [List.drop_length] at go
        unfold lcGo at go
        cases go
        refine post a2 F2 H2 (.ref Dl) e2 t2 ⟨Dl, xs, rfl, hD2, hd, fD2, rD2⟩ ⟨Dl, rfl, ?_⟩
        exact Classical.byContradiction fun z => e1.al Dl z hD

/-! ### statements -/
def PostS (c : Ctx K) (a0 : c.W.A) (F0 H0 F : Hp) (D : Ends) : Out c.W.G → Prop
  | .nx r' g' => ∀ a' F' H' s', Rep c.W a0 F0 H0 a' g' F' H' s' r' → (∀ b o, F b = some o → F' b = some o) → D.nx s' H'
  | .bk r' g' => ∀ a' F' H' s', Rep c.W a0 F0 H0 a' g' F' H' s' r' → (∀ b o, F b = some o → F' b = some o) → D.bk s' H'
  | .ct r' g' => ∀ a' F' H' s', Rep c.W a0 F0 H0 a' g' F' H' s' r' → (∀ b o, F b = some o → F' b = some o) → D.ct s' H'
  | .rt v g' => ∀ a' F' H' x, Ext c.W a0 F0 H0 a' F' H' → c.W.at_ a' g' F' H' → IsV c.W a' F' H' x v → IsN H0 x v → D.rt x H'
  | .er e r' g' => ∀ a' F' H' s' C d, Rep c.W a0 F0 H0 a' g' F' H' s' r' → ErrAt c.mg e C d H' → c.Wx C d s' H'
  | .no => False
def SoundS (c : Ctx K) (t : TS) (m : MS c.W.G) : Prop := ∀ a0 F0 H0 a g F H s r D, Rep c.W a0 F0 H0 a g F H s r → PostS c a0 F0 H0 F D (m r g) → t D s H
theorem PostS.grow {D : Ends} {o : Out c.W.G} (e : ∀ b o, F b = some o → F1 b = some o) (p : PostS c a0 F0 H0 F D o) : PostS c a0 F0 H0 F1 D o := by
  cases o with
  | nx r g => exact fun a' F' H' s' rp k => p a' F' H' s' rp fun b o z => k b o (e b o z)
  | bk r g => exact fun a' F' H' s' rp k => p a' F' H' s' rp fun b o z => k b o (e b o z)
  | ct r g => exact fun a' F' H' s' rp k => p a' F' H' s' rp fun b o z => k b o (e b o z)
  | rt v g => exact p
  | er e r g => exact p
  | no => exact p
theorem ss_next : SoundS c tNext sNext := fun _ _ _ a _ F H s _ _ rp post => post a F H s rp fun _ _ z => z
theorem ss_never : SoundS c tNever sNever := fun _ _ _ _ _ _ _ _ _ _ _ post => post.elim
theorem ss_brk : SoundS c tBreak sBrk := fun _ _ _ a _ F H s _ _ rp post => post a F H s rp fun _ _ z => z
theorem ss_cnt : SoundS c tCont sCnt := fun _ _ _ a _ F H s _ _ rp post => post a F H s rp fun _ _ z => z
theorem ss_seq {t u : TS} {m n : MS c.W.G} (ht : SoundS c t m) (hu : SoundS c u n) : SoundS c (tSeq t u) (sSeq m n) := by
  intro a0 F0 H0 a g F H s r D rp post
  refine ht _ _ _ _ _ _ _ _ _ _ rp ?_
  unfold sSeq at post
  cases h : m r g with
  | nx r1 g1 =>
    rw [h] at post
    exact fun a' F' H' s' rp' k => hu _ _ _ _ _ _ _ _ _ _ rp' (post.grow k)
  | _ => rw [h] at post; exact post
/-- what is wanted behind an expression, for the statement around it -/
theorem so_out {Q : VK} {o : Out c.W.G} {D : Ends} {x : R Vl c.W.G} {f : Vl → c.W.G → Out c.W.G} (rp : Rep c.W a0 F0 H0 a g F H s r) (post : PostS c a0 F0 H0 F D (x.out r f))
    (k : ∀ v g' a' F' H' y, x = .ok v g' → Ext c.W a F H a' F' H' → Rep c.W a0 F0 H0 a' g' F' H' s r → IsV c.W a' F' H' y v → IsN H y v → PostS c a0 F0 H0 F' D (f v g') → Q y H') : PostE c a F H s Q x := by
  cases x with
  | no => exact post
  | er e g' => exact fun a' F' H' C d e t i => post a' F' H' s C d (rp.step e t) i
  | ok v g' => exact fun a' F' H' y e t i n => k v g' a' F' H' y rfl e (rp.step e t) i n (PostS.grow e.ff post)
theorem so_outT {Q : Bool → Hp → Prop} {D : Ends} {x : R Bool c.W.G} {f : Bool → c.W.G → Out c.W.G} (rp : Rep c.W a0 F0 H0 a g F H s r) (post : PostS c a0 F0 H0 F D (x.out r f))
    (k : ∀ v g' a' F' H', x = .ok v g' → Ext c.W a F H a' F' H' → Rep c.W a0 F0 H0 a' g' F' H' s r → PostS c a0 F0 H0 F' D (f v g') → Q v H') : PostT c a F H s Q x := by
  cases x with
  | no => exact post
  | er e g' => exact fun a' F' H' C d e t i => post a' F' H' s C d (rp.step e t) i
  | ok v g' => exact fun a' F' H' e t => k v g' a' F' H' rfl e (rp.step e t) (PostS.grow e.ff post)
theorem ss_asg {te : TE} {me : ME c.W.G} {tg : TG} {mg : MG} {sl : List Nat} (he : SoundE c te me) (hg : SoundG c tg mg sl) : SoundS c (tAsg te tg) (sAsg me mg) := by
  intro a0 F0 H0 a g F H s r D rp post
  refine he _ _ _ _ _ _ _ _ _ _ rp (so_out (o := .no) rp post fun v g' a' F' H' y hx e rp' i n p => ?_)
  refine hg _ _ _ _ _ _ _ _ _ _ v _ rp' i (NewTo.of rp e n) ?_
  cases hm : mg v r with
  | none => rw [hm] at p; exact p
  | some r' =>
    rw [hm] at p
    exact fun s' rp2 _ _ => p a' F' H' s' rp2 fun _ _ z => z
theorem ss_drop {te : TE} {me : ME c.W.G} (he : SoundE c te me) : SoundS c (tDrop te) (sDrop me) := by
  intro a0 F0 H0 a g F H s r D rp post
  exact he _ _ _ _ _ _ _ _ _ _ rp (so_out (o := .no) rp post fun v g' a' F' H' y hx e rp' i n p => p a' F' H' s rp' fun _ _ z => z)
theorem ss_ret {te : TE} {me : ME c.W.G} (he : SoundE c te me) : SoundS c (tRet te) (sRet me) := by
  intro a0 F0 H0 a g F H s r D rp post
  refine he _ _ _ _ _ _ _ _ _ _ rp (so_out (o := .no) rp post fun v g' a' F' H' y hx e rp' i n p => ?_)
  cases v with
  | lent l => exact p.elim
  | _ => exact p a' F' H' y rp'.ext rp'.at_ i (n.back rp.ext.al)
theorem ss_retV (i : Nat) : SoundS c (tRet (tVar i)) (sRetV i) := by
  intro a0 F0 H0 a g F H s r D rp post
  unfold sRetV at post
  cases h : r[i]? with
  | none => rw [h] at post; exact post.elim
  | some o =>
    cases o with
    | none => rw [h] at post; exact post.elim
    | some v =>
      rw [h] at post
      obtain ⟨x, h1, h2⟩ := rp.slot i v h
      refine ⟨x, h1, post a F H x rp.ext rp.at_ h2 ?_⟩
      cases v with
      | own l =>
        obtain ⟨p, xs, e, _⟩ := id h2
        subst e
        exact ⟨p, rfl, (rp.own i l p h h1).1⟩
      | _ => trivial
theorem ss_retN : SoundS c tRetN sRetN := fun _ _ _ a _ F H _ _ _ rp post => post a F H .non rp.ext rp.at_ .non True.intro
theorem ss_if {t : TT} {m : MT c.W.G} {ta tb : TS} {ma mb : MS c.W.G} (ht : SoundT c t m) (ha : SoundS c ta ma) (hb : SoundS c tb mb) : SoundS c (tIfS t ta tb) (sIfS m ma mb) := by
  intro a0 F0 H0 a g F H s r D rp post
  refine ht _ _ _ _ _ _ _ _ _ _ rp (so_outT rp post fun v g' a' F' H' hx e rp' p => ?_)
  cases v with
  | true => exact iteT (ha _ _ _ _ _ _ _ _ _ _ rp' (by simpa using p))
  | false => exact iteF (hb _ _ _ _ _ _ _ _ _ _ rp' (by simpa using p))
theorem ss_for {wi : TI} {it : MI c.W.G} {tg : TG} {mg : MG} {sl : List Nat} {tb : TS} {mb : MS c.W.G} (hi : SoundI c wi it) (hg : SoundG c tg mg sl) (hb : SoundS c tb mb) : SoundS c (tFor wi tg tb) (sFor it mg mb) := by
  intro a0 F0 H0 a g F H s r D rp post
  refine hi _ _ _ _ _ _ _ _ _ _ rp ?_
  unfold sFor at post
  cases h : it r g with
  | no => rw [h] at post; exact post
  | er e g1 =>
    rw [h] at post
    exact fun a' F' H' C d e t i => post a' F' H' s C d (rp.step e t) i
  | ok items g1 =>
    rw [h] at post
    simp only [R.out_ok] at post
    intro a1 F1 H1 J e1 t1 wk
    obtain ⟨G, Y, w, hG, hY⟩ := wk
    generalize ho : forGo mg mb items r g1 = out at post
    refine for_it w (fun i s2 H2 => ∃ (a2 : c.W.A) (g' : c.W.G) (F2 : Hp) (r' : Env), Rep c.W a0 F0 H0 a2 g' F2 H2 s2 r' ∧ (∀ b o, F1 b = some o → F2 b = some o) ∧ forGo mg mb (items.drop i) r' g' = out) ?_ ?_ ?_ ?_
    · exact ⟨a1, g1, F1, r, rp.step e1 t1, fun _ _ z => z, ho⟩
    · rintro i s2 H2 hi ⟨a2, g', F2, r', rp2, f2, _⟩
      exact hG F2 H2 f2 rp2.sub
    · rintro i x s2 H2 H3 hi ⟨a2, g', F2, r', rp2, f2, go⟩ y
      obtain ⟨F3, d, e3, hit, hx⟩ := hY i F2 H2 x H3 f2 rp2.sub y hi
      have hdrop : items.drop i = d :: items.drop (i + 1) := by
        rw [List.drop_eq_getElem_cons hi]
        rw [List.getElem?_eq_getElem hi] at hit
        rw [Option.some.inj hit]
      rw [hdrop] at go
      unfold forGo at go
      have rp3 := rp2.step (Ext.of rp2.sub e3) (at_of rp2.at_ e3)
      refine hg _ _ _ _ _ _ _ _ _ _ (.dat d) _ rp3 hx True.intro ?_
      cases htg : mg (.dat d) r' with
      | none =>
        rw [htg] at go
        subst go
        exact post.elim
      | some r2 =>
        rw [htg] at go
        simp only at go ⊢
        intro s' rp' _ _
        refine hb _ _ _ _ _ _ _ _ _ _ rp' ?_
        have f3 : ∀ b o, F1 b = some o → F3 b = some o := fun b o z => e3.ff b o (f2 b o z)
        cases hmb : mb r2 g' with
        | nx r3 g3 =>
          rw [hmb] at go
          exact fun a' F' H' s3 rp4 k => ⟨a', g3, F', r3, rp4, fun b o z => k b o (f3 b o z), go⟩
        | ct r3 g3 =>
          rw [hmb] at go
          exact fun a' F' H' s3 rp4 k => ⟨a', g3, F', r3, rp4, fun b o z => k b o (f3 b o z), go⟩
        | bk r3 g3 =>
          rw [hmb] at go
          subst go
          exact fun a' F' H' s3 rp4 k => post a' F' H' s3 rp4 fun b o z => k b o (f3 b o (e1.ff b o z))
        | rt v g3 => rw [hmb] at go; subst go; exact post
        | er e r3 g3 => rw [hmb] at go; subst go; exact post
        | no => rw [hmb] at go; subst go; exact post
    · rintro s2 H2 ⟨a2, g', F2, r', rp2, f2, go⟩
      rw [List.drop_length] at go
      unfold forGo at go
      subst go
      exact post a2 F2 H2 s2 rp2 fun b o z => f2 b o (e1.ff b o z)
theorem ss_while {t : TT} {m : MT c.W.G} {tb : TS} {mb : MS c.W.G} (ht : SoundT c t m) (hb : SoundS c tb mb) : SoundS c (tWhile t tb) (sWhile m mb) := by
  intro a0 F0 H0 a g F H s r D rp post
  unfold sWhile at post
  generalize FUEL = fuel at post
  generalize ho : whileGo m mb fuel r g = out at post
  refine ⟨fun n s2 H2 => ∃ (a2 : c.W.A) (g' : c.W.G) (F2 : Hp) (r' : Env), Rep c.W a0 F0 H0 a2 g' F2 H2 s2 r' ∧ (∀ b o, F b = some o → F2 b = some o) ∧ whileGo m mb n r' g' = out, ⟨fuel, a, g, F, r, rp, fun _ _ z => z, ho⟩, ?_⟩
  rintro n s2 H2 ⟨a2, g', F2, r', rp2, f2, go⟩
  cases n with
  | zero =>
    unfold whileGo at go
    subst go
    exact post.elim
  | succ n =>
    unfold whileGo at go
    refine ht _ _ _ _ _ _ _ _ _ _ rp2 ?_
    cases hmt : m r' g' with
    | no => rw [hmt] at go; subst go; exact post
    | er e g2 =>
      rw [hmt] at go
      subst go
      exact fun a' F' H' C d e t i => post a' F' H' s2 C d (rp2.step e t) i
    | ok b g2 =>
      rw [hmt] at go
      simp only [R.out_ok] at go
      intro a3 F3 H3 e3 t3
      have rp3 := rp2.step e3 t3
      have f3 : ∀ b o, F b = some o → F3 b = some o := fun b o z => e3.ff b o (f2 b o z)
      cases b with
      | false =>
        refine iteF ?_
        simp only [Bool.false_eq_true, if_false] at go
        subst go
        exact post a3 F3 H3 s2 rp3 f3
      | true =>
        refine iteT ⟨fun s4 H4 => ∃ m', m' < n + 1 ∧ ∃ (a2 : c.W.A) (g' : c.W.G) (F2 : Hp) (r' : Env), Rep c.W a0 F0 H0 a2 g' F2 H4 s4 r' ∧ (∀ b o, F b = some o → F2 b = some o) ∧ whileGo m mb m' r' g' = out, fun _ _ z => z, ?_⟩
        simp only [if_true] at go
        refine hb _ _ _ _ _ _ _ _ _ _ rp3 ?_
        cases hmb : mb r' g2 with
        | nx r3 g3 =>
          rw [hmb] at go
          exact fun a' F' H' s3 rp4 k => ⟨n, Nat.lt_succ_self n, a', g3, F', r3, rp4, fun b o z => k b o (f3 b o z), go⟩
        | ct r3 g3 =>
          rw [hmb] at go
          exact fun a' F' H' s3 rp4 k => ⟨n, Nat.lt_succ_self n, a', g3, F', r3, rp4, fun b o z => k b o (f3 b o z), go⟩
        | bk r3 g3 =>
          rw [hmb] at go
          subst go
          exact fun a' F' H' s3 rp4 k => post a' F' H' s3 rp4 fun b o z => k b o (f3 b o z)
        | rt v g3 => rw [hmb] at go; subst go; exact post
        | er e r3 g3 => rw [hmb] at go; subst go; exact post
        | no => rw [hmb] at go; subst go; exact post
end
end CW
/-! CwRules4: slots that own a list; calls; a def's promise. -/
namespace CW
open PySem L2
section
variable {K : FR} {c : Ctx K} {W : Wld K} {a0 a a1 : c.W.A} {g g1 : c.W.G} {F0 H0 F H F1 H1 : Hp} {s : L2.St} {r : Env}

theorem Rep.len_lt (rp : Rep c.W a0 F0 H0 a g F H s r) {i : Nat} {v : Option Vl} (h : r[i]? = some v) : i < r.length ∧ i < s.length := by
  have := (List.getElem?_eq_some_iff.mp h).1
  exact ⟨this, by rw [rp.len]; exact this⟩
/-- the list that a slot owns becomes another one -/
theorem Rep.chg (rp : Rep c.W a0 F0 H0 a g F H s r) {i : Nat} {l l' : List PyData} {p : Addr} {xs' : List V} (h : r[i]? = some (some (.own l))) (hp : s[i]? = some (some (.ref p))) (hd : DpAll K F xs' l') :
    Rep c.W a0 F0 H0 a g F (upd H p (.lst xs')) s (r.set i (some (.own l'))) := by
  obtain ⟨x, h1, h2⟩ := rp.slot i _ h
  rw [hp] at h1
  cases h1
  obtain ⟨q, xs, eq, hq, hd0, fq, rq⟩ := h2
  cases eq
  obtain ⟨n0, dis⟩ := rp.own i l p h hp
  obtain ⟨hl, hl2⟩ := rp.len_lt h
  have atk : c.W.at_ a g F (upd H p (.lst xs')) := c.W.keep rp.at_ (fun _ _ z => z) fun b z => ⟨(c.W.off rp.at_ z).1, upd_ne fun e => by subst e; exact rq z⟩
  refine ⟨⟨rp.ext.ff, fun b o z => ?_, fun b z f n => ?_, rp.ext.rg, fun b z => ?_, rp.ext.tk⟩, atk, by simp [rp.len], fun j v hj => ?_, fun j m hj => ?_, fun j m q hj hq2 => ?_⟩
  · have e : b ≠ p := fun e => by subst e; rw [fq] at z; cases z
    rw [upd_ne e]
    exact rp.ext.fh b o z
  · have e : b ≠ p := fun e => by subst e; exact z n0
    obtain ⟨z1, z2, z3⟩ := rp.ext.st b z f n
    exact ⟨z1, by rw [upd_ne e]; exact z2, z3⟩
  · by_cases e : b = p
    · subst e; rw [upd_same]; simp
    · rw [upd_ne e]; exact rp.ext.al b z
  · by_cases e : i = j
    · subst e
      rw [List.getElem?_set_self hl] at hj
      cases hj
      exact ⟨.ref p, hp, p, xs', rfl, upd_same, hd, fq, rq⟩
    · rw [List.getElem?_set_ne e] at hj
      obtain ⟨x, hx, iv⟩ := rp.slot j v hj
      refine ⟨x, hx, ?_⟩
      cases v with
      | dat d => exact iv
      | tok n => exact iv
      | lent m => exact absurd hj (rp.nol j m)
      | own m =>
        obtain ⟨q, ys, eq, hq', rest⟩ := iv
        subst eq
        have ne : q ≠ p := fun e' => by subst e'; exact dis j m (Ne.symm e) hj hx
        exact ⟨q, ys, rfl, by rw [upd_ne ne]; exact hq', rest⟩
  · by_cases e : i = j
    · subst e
      rw [List.getElem?_set_self hl] at hj
      cases hj
    · rw [List.getElem?_set_ne e] at hj
      exact rp.nol j m hj
  · by_cases e : i = j
    · subst e
      rw [hp] at hq2
      cases hq2
      refine ⟨n0, fun k m2 ne hk hs => ?_⟩
      rw [List.getElem?_set_ne (Ne.symm ne)] at hk
      exact dis k m2 ne hk hs
    · rw [List.getElem?_set_ne e] at hj
      obtain ⟨z1, z2⟩ := rp.own j m q hj hq2
      refine ⟨z1, fun k m2 ne hk hs => ?_⟩
      by_cases e2 : i = k
      · subst e2
        exact z2 i l ne h hs
      · rw [List.getElem?_set_ne e2] at hk
        exact z2 k m2 ne hk hs
/-- a slot's list is let go -/
theorem Rep.frz1 (rp : Rep c.W a0 F0 H0 a g F H s r) (i : Nat) : ∃ F', (∀ b o, F b = some o → F' b = some o) ∧ Rep c.W a0 F0 H0 a g F' H s (frzAt r i) := by
  unfold frzAt
  split
  · rename_i l h
    obtain ⟨x, h1, h2⟩ := rp.slot i _ h
    obtain ⟨p, xs, rfl, hq, hd0, fq, rq⟩ := h2
    obtain ⟨n0, dis⟩ := rp.own i l p h h1
    obtain ⟨hl, hl2⟩ := rp.len_lt h
    have ff : ∀ b o, F b = some o → upd F p (.lst xs) b = some o := fun b o z => by rw [upd_ne (ne_of_none z fq)]; exact z
    refine ⟨upd F p (.lst xs), ff, ⟨fun b o z => ff b o (rp.ext.ff b o z), fun b o z => ?_, fun b z f n => ?_, fun b z f n => ?_, rp.ext.al, rp.ext.tk⟩, c.W.keep rp.at_ ff fun b z => ?_, by simp [rp.len], fun j v hj => ?_, fun j m hj => ?_, fun j m q hj hq2 => ?_⟩
    · by_cases e : b = p
      · subst e; rw [upd_same] at z; rw [← z]; exact hq
      · rw [upd_ne e] at z; exact rp.ext.fh b o z
    · have e : b ≠ p := fun e => by subst e; exact z n0
      rw [upd_ne e]
      exact rp.ext.st b z f n
    · have e : b ≠ p := fun e => by subst e; exact z n0
      rw [upd_ne e]
      exact rp.ext.rg b z f n
    · have e : b ≠ p := fun e => by subst e; exact rq z
      rw [upd_ne e]
      exact ⟨(c.W.off rp.at_ z).1, rfl⟩
    · by_cases e : i = j
      · subst e
        rw [List.getElem?_set_self hl] at hj
        cases hj
        exact ⟨.ref p, h1, .lst (Rd.of upd_same) (dps_mono ff _ hd0)⟩
      · rw [List.getElem?_set_ne e] at hj
        obtain ⟨x, hx, iv⟩ := rp.slot j v hj
        refine ⟨x, hx, ?_⟩
        cases v with
        | dat d => exact dp_mono ff _ iv
        | tok n => exact iv
        | lent m => exact absurd hj (rp.nol j m)
        | own m =>
          obtain ⟨q, ys, eq, hq', hd', fq', rq'⟩ := iv
          subst eq
          have ne : q ≠ p := fun e' => by subst e'; exact dis j m (Ne.symm e) hj hx
          exact ⟨q, ys, rfl, hq', dps_mono ff _ hd', by rw [upd_ne ne]; exact fq', rq'⟩
    · by_cases e : i = j
      · subst e
        rw [List.getElem?_set_self hl] at hj
        cases hj
      · rw [List.getElem?_set_ne e] at hj
        exact rp.nol j m hj
    · by_cases e : i = j
      · subst e
        rw [List.getElem?_set_self hl] at hj
        cases hj
      · rw [List.getElem?_set_ne e] at hj
        obtain ⟨z1, z2⟩ := rp.own j m q hj hq2
        refine ⟨z1, fun k m2 ne hk hs => ?_⟩
        by_cases e2 : i = k
        · subst e2
          rw [List.getElem?_set_self hl] at hk
          cases hk
        · rw [List.getElem?_set_ne e2] at hk
          exact z2 k m2 ne hk hs
  · exact ⟨F, fun _ _ z => z, rp⟩
theorem Rep.frzs : ∀ (is : List Nat) {F : Hp} {r : Env}, Rep c.W a0 F0 H0 a g F H s r → ∃ F', (∀ b o, F b = some o → F' b = some o) ∧ Rep c.W a0 F0 H0 a g F' H s (is.foldl frzAt r)
  | [], F, r, rp => ⟨F, fun _ _ z => z, rp⟩
  | i :: is, F, r, rp => by
    obtain ⟨F1, f1, rp1⟩ := rp.frz1 i
    obtain ⟨F2, f2, rp2⟩ := Rep.frzs is rp1
    exact ⟨F2, fun b o z => f2 b o (f1 b o z), rp2⟩
theorem ss_frz (is : List Nat) {t : TS} {m : MS c.W.G} (h : SoundS c t m) : SoundS c t (sFrz is m) := by
  intro a0 F0 H0 a g F H s r D rp post
  obtain ⟨F1, f1, rp1⟩ := rp.frzs is
  exact h _ _ _ _ _ _ _ _ _ _ rp1 (PostS.grow f1 post)
theorem ss_app {i : Nat} {te : TE} {me : ME c.W.G} (he : SoundE c te me) : SoundS c (tDrop (tBM K "list" rAppend (tVar i) (tCons te tNil))) (sApp i me) := by
  intro a0 F0 H0 a g F H s r D rp post
  unfold sApp at post
  split at post
  · rename_i l h
    obtain ⟨x, h1, h2⟩ := rp.slot i _ h
    obtain ⟨p, xs, rfl, hq, hd0, fq, rq⟩ := id h2
    refine ⟨.ref p, h1, .inl ⟨rfl, xs, SqL.of hq⟩, ?_⟩
    refine he _ _ _ _ _ _ _ _ _ _ rp (so_out (o := .no) rp post fun v g' a' F' H' y hx e rp' iv n po => ?_)
    cases hv : v.frz with
    | none => rw [hv] at po; exact po.elim
    | some d =>
      rw [hv] at po
      simp only at po
      by_cases hl : l.length < 100000
      · rw [if_pos hl] at po
        have hz := frz_dp (H := H) iv n hv
        have e2 := letGo_ext e
        have rp2 := rp.step e2 (letGo_at e rp'.at_)
        obtain ⟨x2, h3, h4⟩ := rp2.slot i _ h
        rw [h1] at h3
        cases h3
        obtain ⟨p2, xs2, eq, hq2, hd2, fq2, rq2⟩ := h4
        cases eq
        refine ⟨p, xs2, y, rfl, rfl, hq2, line_lt (by rw [dps_len hd2]; exact hl), ?_⟩
        exact po a' _ _ s (rp2.chg h h1 (dps_app hd2 (.cons hz .nil))) fun b o z => letGo_ff b o z
      · rw [if_neg hl] at po; exact po.elim
  · exact post.elim
theorem atN_eq (n : Nat) (i : Int) : atN n i = ixN n i := rfl
theorem ss_setIx {i : Nat} {t1 t2 : TE} {m1 m2 : ME c.W.G} (h1 : SoundE c t1 m1) (h2 : SoundE c t2 m2) : SoundS c (tAsg t2 (gSub (tVar i) t1 rSetL)) (sSetIx i m1 m2) := by
  intro a0 F0 H0 a g F H s r D rp post
  unfold sSetIx at post
  split at post
  · rename_i l h
    obtain ⟨x, hs, hv⟩ := rp.slot i _ h
    obtain ⟨p, xs, rfl, hq, hd0, fq, rq⟩ := id hv
    refine h2 _ _ _ _ _ _ _ _ _ _ rp (so_out (o := .no) rp post fun v g' a' F' H' y hx e rp' iv n po => ?_)
    refine ⟨.ref p, hs, ?_⟩
    cases v with
    | dat d =>
      refine h1 _ _ _ _ _ _ _ _ _ _ rp' (so_out (o := .no) rp' po fun w g2 a2 F2 H2 z hx2 e2 rp2 iw n2 po2 => ?_)
      cases w with
      | dat dw =>
        cases dw with
        | int j =>
          cases iw
          simp only at po2
          cases hj : atN l.length j with
          | none => rw [hj] at po2; exact po2.elim
          | some k =>
            rw [hj] at po2
            obtain ⟨x2, h3, h4⟩ := rp2.slot i _ h
            rw [hs] at h3
            cases h3
            obtain ⟨p2, xs2, eq, hq2, hd2, fq2, rq2⟩ := h4
            cases eq
            refine ⟨p, xs2, j, k, rfl, rfl, hq2, by rw [dps_len hd2]; exact hj, ?_⟩
            exact po2 a2 _ _ s (rp2.chg h hs (dps_set (dp_mono e2.ff _ iv) k hd2)) fun b o z => z
        | _ => exact po2.elim
      | _ => exact po2.elim
    | _ => exact po.elim
  · exact post.elim
theorem ss_aug {i : Nat} {te : TE} {me : ME c.W.G} {ti : TIp} {f : Vl → Vl → Option Vl} (hr : SoundR c ti f) (he : SoundE c te me) : SoundS c (tAug i te ti) (sAug i f me) := by
  intro a0 F0 H0 a g F H s r D rp post
  unfold sAug at post
  split at post
  · rename_i x h
    obtain ⟨y, h1, h2⟩ := rp.slot i _ h
    refine ⟨y, h1, ?_⟩
    refine he _ _ _ _ _ _ _ _ _ _ rp (so_out (o := .no) rp post fun v g' a' F' H' z hx e rp' iv n po => ?_)
    cases hf : f x v with
    | none => rw [hf] at po; exact po.elim
    | some w =>
      rw [hf] at po
      refine hr a' g' F' H' y z x v w _ e.fh rp'.at_ (h2.step e) iv hf fun F3 H3 z3 e3 i3 n3 => ?_
      have rp3 := rp'.step (Ext.of rp'.sub e3) (at_of rp'.at_ e3)
      cases w with
      | lent l => exact po.elim
      | _ => exact po a' _ _ _ (rp3.set i3 (NewTo.of rp' (Ext.of rp'.sub e3) n3) fun l e => by cases e) e3.ff
  · exact post.elim
theorem NewTo.two {x y : V} {u w : Vl} (rp : Rep c.W a0 F0 H0 a g F H s r) {xs : List V} {vs : List Vl} (e : Ext c.W a F H a1 F1 H1) (i : AreV c.W a1 F1 H1 H xs vs) {j : Nat} (hx : xs[j]? = some x) (hv : vs[j]? = some u) : IsV c.W a1 F1 H1 x u ∧ NewTo H0 s r x u := by
  induction i generalizing j with
  | nil => simp at hx
  | cons iv n d t ih =>
    cases j with
    | zero =>
      simp at hx hv
      subst hx; subst hv
      exact ⟨iv, NewTo.of rp e n⟩
    | succ j => exact ih (by simpa using hx) (by simpa using hv)
theorem ss_par {i j : Nat} {ta : TA} {ma : MA c.W.G} (ha : SoundA c ta ma) : SoundS c (tPar i j ta) (sPar i j ma) := by
  intro a0 F0 H0 a g F H s r D rp post
  refine ha _ _ _ _ _ _ _ _ _ _ rp ?_
  unfold sPar at post
  cases hm : ma r g with
  | no => rw [hm] at post; exact post
  | er e g1 =>
    rw [hm] at post
    exact fun a' F' H' C d e' t i => post a' F' H' s C d (rp.step e' t) i
  | ok vs g1 =>
    rw [hm] at post
    simp only [R.out_ok] at post
    intro a1 F1 H1 xs e1 t1 i1
    have rp1 := rp.step e1 t1
    cases i1 with
    | nil => exact post.elim
    | cons iv n d t =>
      rename_i x xs v vs
      cases t with
      | nil => cases v <;> exact post.elim
      | cons iw n2 d2 t2 =>
        rename_i y ys w ws
        cases t2 with
        | cons _ _ _ _ => cases v <;> cases w <;> exact post.elim
        | nil =>
          refine ⟨x, y, rfl, ?_⟩
          have key : (∀ l, v ≠ .lent l) → (∀ l, w ≠ .lent l) → Rep c.W a0 F0 H0 a1 g1 F1 H1 ((s.set i (some x)).set j (some y)) ((r.set i (some v)).set j (some w)) := fun nv nw => by
            refine (rp1.set (i := i) iv (NewTo.of rp e1 n) nv).set iw ?_ nw
            cases w with
            | own l =>
              obtain ⟨p, rfl, h0, hd⟩ := NewTo.of rp e1 n2
              refine ⟨p, rfl, h0, fun k m hk hs => ?_⟩
              by_cases ek : i = k
              · subst ek
                obtain ⟨hl, hl2⟩ := (rp1.set (i := i) iv (NewTo.of rp e1 n) nv).len_lt hk
                rw [List.getElem?_set_self (by simpa using hl)] at hk
                rw [List.getElem?_set_self (by simpa using hl2)] at hs
                cases hk
                cases hs
                exact d p m rfl rfl 0 l (by simp) (by simp)
              · rw [List.getElem?_set_ne ek] at hk hs
                exact hd k m hk hs
            | _ => trivial
          cases v with
          | lent l => exact post.elim
          | _ =>
            cases w with
            | lent l => exact post.elim
            | _ => exact post a1 F1 H1 _ (key (fun _ e => by cases e) (fun _ e => by cases e)) e1.ff

theorem NewTo.put {H0 : Hp} {s : L2.St} {r : Env} (hl : s.length = r.length) {i : Nat} {x y : V} {v w : Vl} (n : NewTo H0 s r y w) (d : ∀ (p : Addr) (l : List PyData), v = .own l → x = .ref p → ∀ m, w = .own m → y ≠ .ref p) : NewTo H0 (s.set i (some x)) (r.set i (some v)) y w := by
  cases w with
  | own l =>
    obtain ⟨p, rfl, h0, hd⟩ := n
    refine ⟨p, rfl, h0, fun k m hk hs => ?_⟩
    by_cases ek : i = k
    · subst ek
      have hr : i < r.length := by
        have := (List.getElem?_eq_some_iff.mp hk).1
        simpa using this
      rw [List.getElem?_set_self hr] at hk
      rw [List.getElem?_set_self (by rw [hl]; exact hr)] at hs
      cases hk
      cases hs
      exact d p m rfl rfl l rfl rfl
    · rw [List.getElem?_set_ne ek] at hk hs
      exact hd k m hk hs
  | _ => trivial
theorem ss_par3 {i j k : Nat} {ta : TA} {ma : MA c.W.G} (ha : SoundA c ta ma) : SoundS c (tPar3 i j k ta) (sPar3 i j k ma) := by
  intro a0 F0 H0 a g F H s r D rp post
  refine ha _ _ _ _ _ _ _ _ _ _ rp ?_
  unfold sPar3 at post
  cases hm : ma r g with
  | no => rw [hm] at post; exact post
  | er e g1 =>
    rw [hm] at post
    exact fun a' F' H' C d e' t i => post a' F' H' s C d (rp.step e' t) i
  | ok vs g1 =>
    rw [hm] at post
    simp only [R.out_ok] at post
    intro a1 F1 H1 xs e1 t1 i1
    have rp1 := rp.step e1 t1
    cases i1 with
    | nil => exact post.elim
    | cons iu n1 d1 t =>
      rename_i x xs u us
      cases t with
      | nil => exact post.elim
      | cons iv n2 d2 t2 =>
        rename_i y ys v vs
        cases t2 with
        | nil => exact post.elim
        | cons iw n3 d3 t3 =>
          rename_i z zs w ws
          cases t3 with
          | cons _ _ _ _ => exact post.elim
          | nil =>
            refine ⟨x, y, z, rfl, ?_⟩
            have key : (∀ l, u ≠ .lent l) → (∀ l, v ≠ .lent l) → (∀ l, w ≠ .lent l) → Rep c.W a0 F0 H0 a1 g1 F1 H1 (((s.set i (some x)).set j (some y)).set k (some z)) (((r.set i (some u)).set j (some v)).set k (some w)) := fun nu nv nw => by
              have q1 := rp1.set (i := i) iu (NewTo.of rp e1 n1) nu
              have m2 : NewTo H0 (s.set i (some x)) (r.set i (some u)) y v := (NewTo.of rp e1 n2).put rp.len fun p l hu hx m hv hy => d1 p l hu hx 0 m (by simp [hv]) (by simp [hy])
              have m3 : NewTo H0 (s.set i (some x)) (r.set i (some u)) z w := (NewTo.of rp e1 n3).put rp.len fun p l hu hx m hw hz => d1 p l hu hx 1 m (by simp [hw]) (by simp [hz])
              have q2 := q1.set (i := j) iv m2 nv
              exact q2.set (i := k) iw (m3.put q1.len fun p l hv hy m hw hz => d2 p l hv hy 0 m (by simp [hw]) (by simp [hz])) nw
            cases u with
            | lent l => exact post.elim
            | _ =>
              cases v with
              | lent l => exact post.elim
              | _ =>
                cases w with
                | lent l => exact post.elim
                | _ => exact post a1 F1 H1 _ (key (fun _ e => by cases e) (fun _ e => by cases e) (fun _ e => by cases e)) e1.ff

/-! ### a def's promise -/
def IsP (K : FR) (F H : Hp) (H0 : Hp) (x : V) : Vl → Prop
  | .dat d => Dp K F x d
  | .own l => ∃ p xs, x = .ref p ∧ H p = some (.lst xs) ∧ DpAll K F xs l ∧ F p = none ∧ H0 p = none
  | _ => False
def PostD (K : FR) (mg : Str → Option Value) (F H : Hp) (Q : VK) (E : XK) : R Vl Unit → Prop
  | .ok v _ => ∀ F' H' x, PExt F H F' H' → IsP K F' H' H x v → Q x H'
  | .er e _ => ∀ F' H' C d, PExt F H F' H' → ErrAt mg e C d H' → E C d H'
  | .no => False
/-- a plain def: data in, data out (or a new list) -/
def spP (K : FR) (mg : Str → Option Value) (n : Nat) (f : List PyData → R Vl Unit) : Sp := fun vs H Q E => vs.length = n ∧ ∃ F ds, (∀ b o, F b = some o → H b = some o) ∧ DpAll K F vs ds ∧ PostD K mg F H Q E (f ds)
theorem so_callPD {mg : Str → Option Value} {n : Nat} {f : List PyData → R Vl Unit} {ta : TA} {ma : MA c.W.G} {dvs : List V} {dd : List PyData} (hdd : ∀ F : Hp, DpAll K F dvs dd) (hmg : c.mg = mg) (hn : ∀ ds, ds.length ≠ n → f ds = .no) (ha : SoundA c ta ma) :
    SoundE c (tCallSD (spP K mg n f) dvs (fun s => WE c.Wx s) ta) (sCallP (fun ds => f (ds ++ dd)) ma) := by
  subst hmg
  intro a0 F0 H0 a g F H s r Q rp post
  refine ha _ _ _ _ _ _ _ _ _ _ rp ?_
  unfold sCallP at post
  cases h : ma r g with
  | no => rw [h] at post; exact post
  | er e g1 => rw [h] at post; exact post
  | ok vs g1 =>
    rw [h] at post
    simp only [R.bind_ok] at post
    intro a1 F1 H1 xs e1 t1 i1
    cases h2 : frzAll vs with
    | none => rw [h2] at post; exact post.elim
    | some ds =>
      rw [h2] at post
      simp only at post
      have hd := dps_app (frz_dps i1 h2) (hdd (letGo (c.W.reg a1) H F1 H1))
      have e2 := letGo_ext e1
      have t2 := letGo_at e1 t1
      refine ⟨?_, _, ds ++ dd, e2.fh, hd, ?_⟩
      · rw [dps_len hd]
        refine Classical.byContradiction fun z => ?_
        rw [hn _ z] at post
        exact post
      · cases hf : f (ds ++ dd) with
        | no => rw [hf] at post; exact post.elim
        | er e u =>
          rw [hf] at post
          exact fun F' H' C d e3 i => post a1 F' H' C d (e2.trans (Ext.of e2.fh e3)) (at_of t2 e3) i
        | ok v u =>
          rw [hf] at post
          intro F' H' x e3 i
          have e4 := e2.trans (Ext.of e2.fh e3)
          have t4 := at_of t2 e3
          cases v with
          | dat d => exact post a1 F' H' x e4 t4 i True.intro
          | own l =>
            obtain ⟨p, ys, rfl, hp, hd2, fp, np⟩ := i
            have rp' : ¬ c.W.reg a1 p := fun q => (c.W.off t1 q).2 np
            exact post a1 F' H' _ e4 t4 ⟨p, ys, rfl, hp, hd2, fp, rp'⟩ ⟨p, rfl, Classical.byContradiction fun z => e1.al p z np⟩
          | tok n => exact i.elim
          | lent l => exact i.elim
theorem so_callP {mg : Str → Option Value} {n : Nat} {f : List PyData → R Vl Unit} {ta : TA} {ma : MA c.W.G} (hmg : c.mg = mg) (hn : ∀ ds, ds.length ≠ n → f ds = .no) (ha : SoundA c ta ma) :
    SoundE c (tCallSD (spP K mg n f) [] (fun s => WE c.Wx s) ta) (sCallP f ma) := by
  have h := so_callPD (dd := []) (fun _ => .nil) hmg hn ha
  have e : (fun ds => f (ds ++ [])) = f := by funext ds; rw [List.append_nil]
  rw [e] at h
  exact h
/-- the plain world -/
def WU (K : FR) : Wld K where
  G := Unit
  A := Unit
  tok := fun _ _ => none
  reg := fun _ _ => False
  at_ := fun _ _ _ _ => True
  keep := fun _ _ _ => True.intro
  off := fun _ h => h.elim
end
section
variable {K : FR} {mg : Str → Option Value}
theorem envOf_get {F : Hp} : ∀ {vs : List V} {ds : List PyData}, DpAll K F vs ds → ∀ (m : Nat) (i : Nat) (v : Vl), (ds.map (fun d => some (Vl.dat d)) ++ List.replicate m none)[i]? = some (some v) → ∃ x d, v = .dat d ∧ (vs.map some ++ List.replicate m (none : Option V))[i]? = some (some x) ∧ Dp K F x d
  | _, _, .nil, m, i, v, h => by
    simp only [List.map_nil, List.nil_append, List.getElem?_replicate] at h
    split at h <;> simp at h
  | _, _, .cons h1 h2, m, 0, v, h => by
    simp at h
    exact ⟨_, _, h.symm, by simp, h1⟩
  | _, _, .cons h1 h2, m, i + 1, v, h => by
    obtain ⟨x, d, e, h3, h4⟩ := envOf_get h2 m i v (by simpa using h)
    exact ⟨x, d, e, by simpa using h3, h4⟩
/-- a body kept against its function keeps the promise -/
theorem body_ok {Wx : WX} {E : XK} (hW : ∀ C d s H, E C d H → Wx C d s H) {N : List Str} {k : Nat} {t : TS} {m : MS Unit} (h : SoundS (⟨WU K, mg, Wx⟩ : Ctx K) t m) {vs : List V} {H : Hp} {Q : VK} (sp : spP K mg k (runD k N.length m) vs H Q E) :
    t { nx := fun _ H' => Q .non H', rt := Q } (L2.start N vs) H := by
  obtain ⟨hl, F, ds, sub, hd, post⟩ := sp
  have hn : ds.length = vs.length := (dps_len hd).symm
  unfold runD at post
  rw [if_pos (hn.trans hl)] at post
  have rp : Rep (WU K) () F H () () F H (L2.start N vs) (envOf N.length ds) := by
    refine ⟨Ext.refl sub, True.intro, ?_, fun i v hi => ?_, fun i l hi => ?_, fun i l p hi => ?_⟩
    · unfold L2.start envOf
      simp [hn]
    · unfold L2.start envOf at *
      rw [hn] at hi
      obtain ⟨x, d, rfl, h3, h4⟩ := envOf_get hd _ i v hi
      exact ⟨x, h3, h4⟩
    · unfold envOf at hi
      obtain ⟨x, d, e, _⟩ := envOf_get hd _ i _ hi
      cases e
    · unfold envOf at hi
      obtain ⟨x, d, e, _⟩ := envOf_get hd _ i _ hi
      cases e
  refine h _ _ _ _ _ _ _ _ _ _ rp ?_
  cases hm : m (envOf N.length ds) () with
  | no => rw [hm] at post; exact post.elim
  | bk r g => rw [hm] at post; exact post.elim
  | ct r g => rw [hm] at post; exact post.elim
  | nx r g =>
    rw [hm] at post
    exact fun a' F' H' s' rp' _ => post F' H' .non ⟨rp'.ext.ff, rp'.ext.fh, fun b z f => let ⟨x, y, _⟩ := rp'.ext.st b z f (fun q => q.elim); ⟨x, y⟩⟩ .non
  | er e r g =>
    rw [hm] at post
    exact fun a' F' H' s' C d rp' i => hW C d s' H' (post F' H' C d ⟨rp'.ext.ff, rp'.ext.fh, fun b z f => let ⟨x, y, _⟩ := rp'.ext.st b z f (fun q => q.elim); ⟨x, y⟩⟩ i)
  | rt v g =>
    rw [hm] at post
    intro a' F' H' x e t i n
    have pe : PExt F H F' H' := ⟨e.ff, e.fh, fun b z f => let ⟨x, y, _⟩ := e.st b z f (fun q => q.elim); ⟨x, y⟩⟩
    cases v with
    | dat d => exact post F' H' x pe i
    | own l =>
      refine post F' H' x pe ?_
      obtain ⟨p, xs, rfl, hp, hd2, fp, _⟩ := i
      obtain ⟨q, eq, nq⟩ := n
      cases eq
      exact ⟨p, xs, rfl, hp, hd2, fp, nq⟩
    | tok n' =>
      obtain ⟨p, z, _⟩ := i
      cases z
    | lent l => exact post.elim
end
end CW
/-! CwOps: the operators by values. -/
namespace CW
open PySem L2
section
variable {K : FR} {c : Ctx K} {W : Wld K} {a a1 : c.W.A} {g g1 : c.W.G} {F H F1 H1 : Hp}

theorem OpR.or2 {X : Cx} {f : Value → Value → Sem Value} {r r' : R2} (h : OpR X f r) (h' : OpR X f r') : OpR X f (fun x y H Q => r x y H Q ∨ r' x y H Q) := by
  intro pins s σ H x y v u Q I rx ry q
  rcases q with q | q
  · exact h pins s σ H x y v u Q I rx ry q
  · exact h' pins s σ H x y v u Q I rx ry q
theorem rd_obj {X : Cx} {pins : List (Addr × Obj)} {σ : L2.St} {H : Hp} {s : Shared} {l : Addr} {xs : List V} (I : Inv X pins σ H s) (h : Rd H l (.lst xs)) :
    xs.length ≤ sizeLine ∧ ∃ (its : List Value) (n : Nat), Vals xs its ∧ xs.length = its.length ∧ s.heap.get? l = some { cls := .type "list", data := .seq its.toArray n } := by
  obtain ⟨z, its, n, r, e⟩ := h.ok I.hok
  exact ⟨z, its, n, r, r.length, e⟩
def rCatR : R2 := fun x y H Q => ∃ l b xs zs, x = .ref l ∧ y = .ref b ∧ Rd H l (.lst xs) ∧ Rd H b (.lst zs) ∧ xs.length + zs.length ≤ sizeLine ∧ ∀ p, H p = none → Q (.ref p) (upd H p (.lst (xs ++ zs)))
theorem op_catR {X : Cx} : OpR X (binaryOp .Add) rCatR := by
  intro pins s σ H x y v u Q I rx ry h
  obtain ⟨l, b, xs, zs, rfl, rfl, hH, hB, hz, q⟩ := h
  cases rx
  cases ry
  obtain ⟨z, its, n, r, hl, e⟩ := rd_obj I hH
  obtain ⟨z2, its2, n2, r2, hl2, e2⟩ := rd_obj I hB
  refine PySem.P.add_list e e2 ?_ (by rw [List.size_toArray, List.size_toArray]; omega)
  have ea : its.toArray ++ its2.toArray = (its ++ its2).toArray := by simp
  rw [ea]
  exact ⟨.ref _, _, I.lnew (t' := s.toks) (r.append r2) (by rw [List.length_append]; omega), rfl, q _ I.fresh⟩

/-! ### what a value lets one read -/
theorem IsV.lst {x : V} {v : Vl} {l : List PyData} (sub : ∀ b o, F b = some o → H b = some o) (i : IsV c.W a F H x v) (h : v.lst? = some l) : ∃ p xs, x = .ref p ∧ Rd H p (.lst xs) ∧ DpAll K F xs l := by
  cases v with
  | tok n => cases h
  | own m => cases h; obtain ⟨p, xs, e, hp, hd, _⟩ := i; exact ⟨p, xs, e, .inl hp, hd⟩
  | lent m => cases h; obtain ⟨p, xs, e, hp, hd, _⟩ := i; exact ⟨p, xs, e, .inl hp, hd⟩
  | dat d =>
    cases d with
    | list m =>
      cases h
      cases i with
      | lst h1 h2 => exact ⟨_, _, rfl, rd_mono sub h1, h2⟩
    | _ => cases h
theorem IsV.tup {x : V} {v : Vl} {l : List PyData} (sub : ∀ b o, F b = some o → H b = some o) (i : IsV c.W a F H x v) (h : v.tup? = some l) : ∃ p xs, x = .ref p ∧ Rd H p (.tup xs) ∧ DpAll K F xs l ∧ Rd F p (.tup xs) := by
  cases v with
  | dat d =>
    cases d with
    | tuple m =>
      cases h
      cases i with
      | tup h1 h2 => exact ⟨_, _, rfl, rd_mono sub h1, h2, h1⟩
    | _ => cases h
  | _ => cases h
theorem IsV.seq {x : V} {v : Vl} {l : List PyData} (sub : ∀ b o, F b = some o → H b = some o) (i : IsV c.W a F H x v) (h : v.seq? = some l) : ∃ p xs, x = .ref p ∧ DpAll K F xs l ∧ ((v.lst? = some l ∧ Rd H p (.lst xs)) ∨ (v.tup? = some l ∧ Rd H p (.tup xs) ∧ Rd F p (.tup xs))) := by
  unfold Vl.seq? at h
  cases h1 : v.lst? with
  | some m =>
    rw [h1] at h
    cases h
    obtain ⟨p, xs, e, r, d⟩ := i.lst sub h1
    exact ⟨p, xs, e, d, .inl ⟨rfl, r⟩⟩
  | none =>
    rw [h1] at h
    obtain ⟨p, xs, e, r, d, f⟩ := i.tup sub h
    exact ⟨p, xs, e, d, .inr ⟨h, r, f⟩⟩
theorem IsV.look {x : V} {v : Vl} {d : PyData} (sub : ∀ b o, F b = some o → H b = some o) (i : IsV c.W a F H x v) (h : v.look = some d) : L2.Dp K H x d := by
  cases v with
  | tok n => cases h
  | dat e => cases h; exact dp_lib _ (dp_mono sub _ i)
  | own m => cases h; obtain ⟨p, xs, rfl, hp, hd, _⟩ := i; exact .lst (.inl (.inl hp)) (dps_lib _ (dps_mono sub _ hd))
  | lent m => cases h; obtain ⟨p, xs, rfl, hp, hd, _⟩ := i; exact .lst (.inl (.inl hp)) (dps_lib _ (dps_mono sub _ hd))
theorem dp_int {x : V} {i : Int} (h : Dp K F x (.int i)) : x = .int i := by cases h; rfl
theorem dp_bool {x : V} {i : Bool} (h : Dp K F x (.bool i)) : x = .bl i := by cases h; rfl
theorem dp_str {x : V} {i : Str} (h : Dp K F x (.str i)) : x = .str i := by cases h; rfl
/-- a new own list at p -/
theorem own_new {p : Addr} {xs : List V} {l : List PyData} {Q : VK} (sub : ∀ b o, F b = some o → H b = some o) (t : c.W.at_ a g F H) (hd : DpAll K F xs l) (hp : H p = none)
    (k : ∀ F' H' z, PExt F H F' H' → IsV c.W a F' H' z (.own l) → IsN H z (.own l) → Q z H') : Q (.ref p) (upd H p (.lst xs)) := by
  have fp : F p = none := by
    cases q : F p with
    | none => rfl
    | some o => rw [sub p o q] at hp; cases hp
  exact k F _ (.ref p) (PExt.own sub hp) ⟨p, xs, rfl, upd_same, hd, fp, fun q => (c.W.off t q).2 hp⟩ ⟨p, rfl, hp⟩
theorem tup_new {p : Addr} {xs : List V} {l : List PyData} {Q : VK} (sub : ∀ b o, F b = some o → H b = some o) (hd : DpAll K F xs l) (hp : H p = none)
    (k : ∀ F' H' z, PExt F H F' H' → IsV c.W a F' H' z (.dat (.tuple l)) → IsN H z (.dat (.tuple l)) → Q z H') : Q (.ref p) (upd H p (.tup xs)) :=
  k _ _ _ (PExt.new sub hp) (Dp.tup (Rd.of upd_same) (dps_mono (PExt.new (o := .tup xs) sub hp).ff _ hd)) True.intro

/-! ### + -/
def rAddA (K : FR) : R2 := fun x y H Q => ((rI0 fun i j => V.int (i + j)) x y H Q ∨ ∃ i j, x = .str i ∧ y = .str j ∧ i.length + j.length ≤ sizeLine ∧ Q (.str (i ++ j)) H) ∨ (rCatA K x y H Q ∨ rCatR x y H Q)
theorem op_addA {X : Cx} : OpR X (binaryOp .Add) (rAddA X.K) := OpR.or2 (OpR.or2 op_add op_add_str) (OpR.or2 op_catA op_catR)
theorem sr_lists {x y : V} {u v w : Vl} {Q : VK} (sub : ∀ b o, F b = some o → H b = some o) (t : c.W.at_ a g F H) (iu : IsV c.W a F H x u) (iv : IsV c.W a F H y v)
    (h : (match u.lst?, v.lst? with
      | some a, some b => if a.length + b.length ≤ 100000 then some (Vl.own (a ++ b)) else none
      | _, _ => none) = some w) (k : ∀ F' H' z, PExt F H F' H' → IsV c.W a F' H' z w → IsN H z w → Q z H') : rAddA K x y H Q := by
  cases h1 : u.lst? with
  | none => rw [h1] at h; cases h
  | some l =>
    cases h2 : v.lst? with
    | none => rw [h1, h2] at h; cases h
    | some m =>
      rw [h1, h2] at h
      simp only at h
      by_cases hl : l.length + m.length ≤ 100000
      · rw [if_pos hl] at h
        cases h
        obtain ⟨p, xs, rfl, r, hd⟩ := iu.lst sub h1
        obtain ⟨q, ys, rfl, r2, hd2⟩ := iv.lst sub h2
        exact .inr (.inr ⟨p, q, xs, ys, rfl, rfl, r, r2, line_of (by rw [dps_len hd, dps_len hd2]; exact hl), fun z hz => own_new sub t (dps_app hd hd2) hz k⟩)
      · rw [if_neg hl] at h; cases h
theorem sr_add : SoundR c (rAddA K) oAdd := by
  intro a g F H x y u v w Q sub t iu iv h k
  unfold oAdd at h
  split at h
  · rename_i i j
    cases h
    exact .inl (.inl ⟨i, j, dp_int iu, dp_int iv, k F H _ (PExt.refl sub) (.int _) True.intro⟩)
  · rename_i i j
    split at h
    · rename_i hl
      cases h
      exact .inl (.inr ⟨i, j, dp_str iu, dp_str iv, line_of hl, k F H _ (PExt.refl sub) (.str _) True.intro⟩)
    · cases h
  · rename_i l m
    split at h
    · rename_i hl
      cases h
      obtain ⟨p, xs, rfl, r, hd, f⟩ := IsV.tup sub iu (show (Vl.dat (.tuple l)).tup? = some l from rfl)
      obtain ⟨q, ys, rfl, r2, hd2, f2⟩ := IsV.tup sub iv (show (Vl.dat (.tuple m)).tup? = some m from rfl)
      refine .inr (.inl ⟨p, q, xs, ys, rfl, rfl, .inl r, .inl r2, line_of (by rw [dps_len hd, dps_len hd2]; exact hl), fun e => ?_, fun e e2 => ?_, fun _ _ z hz => tup_new sub (dps_app hd hd2) hz k⟩)
      · subst e
        cases hd
        exact k F H _ (PExt.refl sub) iv True.intro
      · subst e2
        cases hd2
        rw [List.append_nil] at k
        exact k F H _ (PExt.refl sub) iu True.intro
    · cases h
  · exact sr_lists sub t iu iv h k

/-! ### ints -/
theorem sr_sub : SoundR c (rI0 fun i j => V.int (i - j)) oSub := by
  intro a g F H x y u v w Q sub t iu iv h k
  unfold oSub at h
  split at h
  · cases h; exact ⟨_, _, dp_int iu, dp_int iv, k F H _ (PExt.refl sub) (.int _) True.intro⟩
  · cases h
theorem log_of {i : Int} (h : small i = true) : i.natAbs.log2 < 200 := by
  unfold small at h
  rw [Bool.and_eq_true, decide_eq_true_eq, decide_eq_true_eq] at h
  have h1 : i.natAbs < 2 ^ 200 := by rw [BIG_eq] at h; omega
  exact PySem.Flt.log2_lt_of (by decide) h1
def rMulA (K : FR) : R2 := fun x y H Q => rI CMulW (fun i j => V.int (i * j)) x y H Q ∨ (rRepT K x y H Q ∨ rRep x y H Q)
theorem op_mulA {X : Cx} : OpR X (binaryOp .Mult) (rMulA X.K) := OpR.or2 op_mulW (OpR.or2 op_repT op_rep)
theorem sr_mul : SoundR c (rMulA K) oMul := by
  intro a g F H x y u v w Q sub t iu iv h k
  unfold oMul at h
  split at h
  · rename_i i j
    split at h
    · rename_i hs
      rw [Bool.and_eq_true] at hs
      cases h
      refine .inl ⟨i, j, dp_int iu, dp_int iv, ?_, k F H _ (PExt.refl sub) (.int _) True.intro⟩
      have h1 := log_of hs.1
      have h2 := log_of hs.2
      unfold CMulW
      omega
    · cases h
  · rename_i l j
    split at h
    · rename_i hs
      cases h
      obtain ⟨p, xs, rfl, r, hd, f⟩ := IsV.tup sub iu (show (Vl.dat (.tuple l)).tup? = some l from rfl)
      have e := dps_len hd
      refine .inr (.inl ⟨p, j, xs, rfl, dp_int iv, .inl r, fun z => hs.1 ?_, hs.2.1, hs.2.2.1, by omega, fun z hz => tup_new sub (dps_rep hd _) hz k⟩)
      subst z
      cases hd
      rfl
    · cases h
  · rename_i l j
    split at h
    · rename_i hs
      cases h
      obtain ⟨p, xs, rfl, hp, hd, _⟩ := iu
      have hb := hs.2
      rw [BIGW_eq] at hb
      exact .inr (.inr ⟨p, j, xs, rfl, dp_int iv, hp, by omega, by omega, line_of (by rw [dps_len hd]; exact hs.1), fun z hz => own_new sub t (dps_rep hd _) hz k⟩)
    · cases h
  · cases h
theorem sr_div : SoundR c (rI CDivW fun i j => V.int (i / j)) oDiv := by
  intro a g F H x y u v w Q sub t iu iv h k
  unfold oDiv at h
  split at h
  · rename_i i j
    split at h
    · rename_i hs
      cases h
      refine ⟨i, j, dp_int iu, dp_int iv, ⟨hs.1, ?_⟩, k F H _ (PExt.refl sub) (.int _) True.intro⟩
      have h2 := log_of (i := j) (by unfold small; rw [BIG_eq] at hs ⊢; simp; omega)
      omega
    · cases h
  · cases h
theorem sr_mod : SoundR c (rI (fun _ j => 0 < j) fun i j => V.int (i % j)) oMod := by
  intro a g F H x y u v w Q sub t iu iv h k
  unfold oMod at h
  split at h
  · split at h
    · rename_i hs
      cases h
      exact ⟨_, _, dp_int iu, dp_int iv, hs, k F H _ (PExt.refl sub) (.int _) True.intro⟩
    · cases h
  · cases h
theorem sr_pow : SoundR c (rI CPow fun i j => V.int (i ^ j.toNat)) oPow := by
  intro a g F H x y u v w Q sub t iu iv h k
  unfold oPow at h
  split at h
  · split at h
    · rename_i hs
      cases h
      refine ⟨_, _, dp_int iu, dp_int iv, ?_, k F H _ (PExt.refl sub) (.int _) True.intro⟩
      unfold CPow
      refine ⟨hs.1, by omega, ?_⟩
      omega
    · cases h
  · cases h
theorem sr_lt : SoundR c (rI0 fun i j => V.bl (decide (i < j))) oLt := by
  intro a g F H x y u v w Q sub t iu iv h k
  unfold oLt at h
  split at h
  · cases h; exact ⟨_, _, dp_int iu, dp_int iv, k F H _ (PExt.refl sub) (.bl _) True.intro⟩
  · cases h
def rLeA (K : FR) : R2 := fun x y H Q => rI0 (fun i j => V.bl (decide (i ≤ j))) x y H Q ∨ rLeT K x y H Q
theorem op_leA {X : Cx} (hu : X.A.units < cLine) : OpR X (compareOp .LtE) (rLeA X.K) := OpR.or2 op_le (op_leT hu)
theorem dp_pair {x : V} {a b : Int} (sub : ∀ b o, F b = some o → H b = some o) (h : Dp K F x (.tuple [.int a, .int b])) : ∃ p, x = .ref p ∧ SqT K H p (([a, b] : List Int).map V.int) := by
  cases h with
  | tup r hx =>
    cases hx with
    | cons g1 g2 =>
      cases g2 with
      | cons g3 g4 =>
        cases g4
        have q1 := dp_int g1
        have q2 := dp_int g3
        subst q1
        subst q2
        exact ⟨_, rfl, .inl (rd_mono sub r)⟩
theorem sr_le : SoundR c (rLeA K) oLe := by
  intro a g F H x y u v w Q sub t iu iv h k
  unfold oLe at h
  split at h
  · cases h; exact .inl ⟨_, _, dp_int iu, dp_int iv, k F H _ (PExt.refl sub) (.bl _) True.intro⟩
  · rename_i a1 b1 a2 b2
    cases h
    obtain ⟨p, rfl, hp⟩ := dp_pair sub iu
    obtain ⟨q, rfl, hq⟩ := dp_pair sub iv
    refine .inr ⟨p, q, [a1, b1], [a2, b2], rfl, rfl, hp, hq, k F H _ (PExt.refl sub) ?_ True.intro⟩
    have e : Ob.lexAt (fun j => decide (([a1, b1] : List Int).getD j 0 = ([a2, b2] : List Int).getD j 0)) (fun j => decide (([a1, b1] : List Int).getD j 0 ≤ ([a2, b2] : List Int).getD j 0)) (decide (([a1, b1] : List Int).length ≤ ([a2, b2] : List Int).length)) 0 (min ([a1, b1] : List Int).length ([a2, b2] : List Int).length) = (if a1 = a2 then decide (b1 ≤ b2) else decide (a1 ≤ a2)) := by
      show Ob.lexAt _ _ _ 0 2 = _
      simp only [Ob.lexAt]
      simp
      by_cases h1 : a1 = a2 <;> by_cases h2 : b1 = b2 <;> simp [h1, h2]
    rw [e]
    exact .bl _
  · cases h
theorem sr_gt : SoundR c (rI0 fun i j => V.bl (decide (j < i))) oGt := by
  intro a g F H x y u v w Q sub t iu iv h k
  unfold oGt at h
  split at h
  · cases h; exact ⟨_, _, dp_int iu, dp_int iv, k F H _ (PExt.refl sub) (.bl _) True.intro⟩
  · cases h
theorem sr_ge : SoundR c (rI0 fun i j => V.bl (decide (j ≤ i))) oGe := by
  intro a g F H x y u v w Q sub t iu iv h k
  unfold oGe at h
  split at h
  · cases h; exact ⟨_, _, dp_int iu, dp_int iv, k F H _ (PExt.refl sub) (.bl _) True.intro⟩
  · cases h
theorem su_neg : SoundU c (rU fun i => V.int (-i)) oNeg := by
  intro a g F H x u w Q sub t iu h k
  unfold oNeg at h
  split at h
  · cases h; exact ⟨_, dp_int iu, k F H _ (PExt.refl sub) (.int _) True.intro⟩
  · cases h

/-! ### ==, != -/
mutual
theorem deq_eqv : ∀ d e : PyData, deq d e = PyData.eqv d e
  | .none, e => by cases e <;> simp [deq, PyData.eqv]
  | .bool a, e => by cases e <;> simp [deq, PyData.eqv]
  | .int a, e => by cases e <;> simp [deq, PyData.eqv]
  | .str a, e => by cases e <;> simp [deq, PyData.eqv]
  | .list a, e => by cases e <;> simp [deq, PyData.eqv, deqs_eqv]
  | .tuple a, e => by cases e <;> simp [deq, PyData.eqv, deqs_eqv]
  | .dict a, e => by cases e <;> simp [deq, PyData.eqv]
theorem deqs_eqv : ∀ d e : List PyData, deqs d e = PyData.eqvAll d e
  | [], e => by cases e <;> simp [deqs, PyData.eqvAll]
  | x :: xs, e => by
    cases e with
    | nil => simp [deqs, PyData.eqvAll]
    | cons y ys => simp [deqs, PyData.eqvAll, deq_eqv x y, deqs_eqv xs ys]
end
mutual
theorem shp_lay : ∀ (d : PyData) (n : Nat), shp n d = true → d.canLay0 = true ∧ d.depth ≤ n
  | .none, n, h => by simp [PyData.canLay0, PyData.depth]
  | .bool _, n, h => by simp [PyData.canLay0, PyData.depth]
  | .int _, n, h => by simp [PyData.canLay0, PyData.depth]
  | .str x, n, h => by
    have h' : PyData.strOk x = true := by cases n <;> simpa [shp, sok, PyData.strOk] using h
    simp [PyData.canLay0, PyData.depth, h']
  | .list xs, 0, h => by simp [shp] at h
  | .tuple xs, 0, h => by simp [shp] at h
  | .list xs, n + 1, h => by
    have := shps_lay xs n (by simpa [shp] using h)
    simp [PyData.canLay0, PyData.depth, this.1]
    omega
  | .tuple xs, n + 1, h => by
    have := shps_lay xs n (by simpa [shp] using h)
    simp [PyData.canLay0, PyData.depth, this.1]
    omega
  | .dict _, n, h => by cases n <;> simp [shp] at h
theorem shps_lay : ∀ (ds : List PyData) (n : Nat), shps n ds = true → PyData.canLayAll0 ds = true ∧ PyData.depthAll ds ≤ n
  | [], n, h => by simp [PyData.canLayAll0, PyData.depthAll]
  | d :: ds, n, h => by
    rw [shps, Bool.and_eq_true] at h
    have h1 := shp_lay d n h.1
    have h2 := shps_lay ds n h.2
    simp [PyData.canLayAll0, PyData.depthAll, h1.1, h2.1]
    omega
end
theorem shp_shaped {d : PyData} (h : shp 12 d = true) : SeqAt.shaped d = true := by
  have := shp_lay d 12 h
  unfold SeqAt.shaped
  rw [Bool.and_eq_true, decide_eq_true_eq]
  exact ⟨this.1, by omega⟩
theorem sr_eq : SoundR c (rEqD K) oEq := by
  intro a g F H x y u v w Q sub t iu iv h k
  unfold oEq at h
  split at h
  · rename_i d e h1 h2
    split at h
    · rename_i hs
      rw [Bool.and_eq_true] at hs
      cases h
      rw [deq_eqv] at k
      exact ⟨d, e, iu.look sub h1, iv.look sub h2, shp_shaped hs.1, shp_shaped hs.2, k F H _ (PExt.refl sub) (.bl _) True.intro⟩
    · cases h
  · cases h
theorem sr_ne : SoundR c (rNeD K) oNe := by
  intro a g F H x y u v w Q sub t iu iv h k
  unfold oNe at h
  split at h
  · rename_i d e h1 h2
    split at h
    · rename_i hs
      rw [Bool.and_eq_true] at hs
      cases h
      rw [deq_eqv] at k
      exact ⟨d, e, iu.look sub h1, iv.look sub h2, shp_shaped hs.1, shp_shaped hs.2, k F H _ (PExt.refl sub) (.bl _) True.intro⟩
    · cases h
  · cases h
theorem sr_isN : SoundR c (fun x y H Q => y = .non ∧ Q (.bl (decide (x = .non))) H) oIsN := by
  intro a g F H x y u v w Q sub t iu iv h k
  unfold oIsN at h
  split at h
  · rename_i d
    cases h
    cases iv
    refine ⟨rfl, ?_⟩
    have : decide (x = V.non) = isNon d := by
      cases iu <;> simp [isNon]
    rw [this]
    exact k F H _ (PExt.refl sub) (.bl _) True.intro
  · cases h
theorem sr_notN : SoundR c (fun x y H Q => y = .non ∧ Q (.bl (!decide (x = .non))) H) oNotN := by
  intro a g F H x y u v w Q sub t iu iv h k
  unfold oNotN at h
  split at h
  · rename_i d
    cases h
    cases iv
    refine ⟨rfl, ?_⟩
    have : (!decide (x = V.non)) = !isNon d := by
      cases iu <;> simp [isNon]
    rw [this]
    exact k F H _ (PExt.refl sub) (.bl _) True.intro
  · cases h
end
end CW
/-! CwWalks: enumerate and zip over lists and tuples in any mix. -/
namespace CW
open PySem PySem.Spec PyProof.Rows L2
set_option maxHeartbeats 1000000 in
theorem meets_enumerate_newB1 {v : Value} {o : Obj} {H : Heap → Prop} (B : Begins v o H) :
    Meets (Builtin.«enumerate.__new__» ⟨[.type "enumerate", v], []⟩) (fun _ R s => H s.heap ∧
      R (.ok (.ret (.ref (s.heap.push o).objs.size))) { s with heap := (s.heap.push o).push { cls := .type "enumerate", data := .fields #[.none, .bool false, .ref s.heap.objs.size, rawInt 0, .none, .none] } }) :=
  .of_wp fun prog w A R s h => by
    obtain ⟨hp, g, d, tk, os⟩ := s; obtain ⟨h1, h⟩ := h
    have hsub := sub_enumerate
    have q1 : ∀ {A' : Around} {E : Value → Shared → Prop} {Q : Value → Shared → Prop}, Q (.ref hp.objs.size) ⟨hp.push o, g, d, tk, os⟩ → wpAny (model prog w) A' (pyIter v) Q E ⟨hp, g, d, tk, os⟩ :=
      fun q => B.iter prog w _ _ ⟨hp, g, d, tk, os⟩ _ h1 q
    wp_walk using q1
    refine wpAny_stack_any fun st => wpAny_pure ?_
    split
    · rename_i c _ _ _ _ _
      cases (c == Value.type "enumerate")
      · wp_walk using q1
        exact ⟨_, rfl, h⟩
      · wp_walk using q1
        exact ⟨_, rfl, h⟩
    · wp_walk using q1
      exact ⟨_, rfl, h⟩
section
variable {prog : Program} {w : World} {A : Around} {E : Value → Shared → Prop} {s : Shared}
theorem enum_begins1 {v : Value} {o : Obj} {H : Heap → Prop} {Q : Value → Shared → Prop} (B : Begins v o H) (h1 : H s.heap)
    (h : ∀ h', IsEnum h' (s.heap.objs.size + 1) s.heap.objs.size 0 .none → h'.get? s.heap.objs.size = some o → h'.objs.size = s.heap.objs.size + 2 →
      (∀ b o, s.heap.get? b = some o → h'.get? b = some o) → Q (.ref (s.heap.objs.size + 1)) { s with heap := h' }) :
    wpAny (model prog w) A (call (.type "enumerate") [v]) Q E s := by
  refine callType_new F.called_enumerate (by decide) (F.typeCall_enumerate_1 _) (F.newCall_enumerate_1 _) (fun obj => F.args_object_init_2 obj _) F.entry_enumerate_new
    (meets_enumerate_newB1 B) ⟨h1, ?_⟩
  have hz : (s.heap.push o).objs.size = s.heap.objs.size + 1 := Heap.size_push ..
  show _ ∧ _
  rw [hz]
  have he : IsEnum ((s.heap.push o).push { cls := .type "enumerate", data := .fields #[.none, .bool false, .ref s.heap.objs.size, rawInt 0, .none, .none] }) (s.heap.objs.size + 1) s.heap.objs.size 0 .none := by
    have := Heap.get?_push_size (s.heap.push o) (o := { cls := .type "enumerate", data := .fields #[.none, .bool false, .ref s.heap.objs.size, rawInt 0, .none, .none] }) rfl
    rw [hz] at this; exact this
  refine ⟨⟨_, he, rfl⟩, h _ he (Heap.get?_push_of_some _ (Heap.get?_push_size _ B.free)) (by rw [Heap.size_push, hz]) fun b o x => Heap.get?_push_of_some _ (Heap.get?_push_of_some _ x)⟩
end

/-! ### a source: a list (true) or a tuple (false) -/
def Src (k : Bool) (H : Hp) (a : Addr) (xs : List V) : Prop := match k with
  | true => Rd H a (.lst xs)
  | false => Rd H a (.tup xs)
def SrcIt (k : Bool) (h : Heap) (it a : Addr) (i : Nat) : Prop := match k with
  | true => h.IsListIter it a i
  | false => h.IsTupleIter it a i
def SrcH (k : Bool) (h : Heap) (a : Addr) (its : Array Value) : Prop := match k with
  | true => h.IsList a its
  | false => h.IsTuple a its
def itO (k : Bool) (a : Addr) : Obj := match k with
  | true => { cls := .type "list_iterator", data := .fields #[.ref a, .int 0 0] }
  | false => { cls := .type "tuple_iterator", data := .fields #[.ref a, .int 0 0] }
theorem src_mono {k : Bool} {F H : Hp} (e : ∀ b o, F b = some o → H b = some o) {a : Addr} {xs : List V} (h : Src k F a xs) : Src k H a xs := by
  cases k with
  | true => exact rd_mono (u := .lst xs) e h
  | false => exact rd_mono (u := .tup xs) e h
theorem src_some {k : Bool} {H : Hp} {a : Addr} {xs : List V} (h : Src k H a xs) : H a ≠ none := by
  cases k with
  | true => rcases h with h | ⟨o, h⟩ <;> rw [h] <;> simp
  | false => rcases h with h | ⟨o, h⟩ <;> rw [h] <;> simp
theorem src_inj {k : Bool} {H : Hp} {a : Addr} {xs ys : List V} (h : Src k H a xs) (h' : Src k H a ys) : xs = ys := by
  cases k with
  | true => rcases h with h | ⟨o, h⟩ <;> rcases h' with h' | ⟨o', h'⟩ <;> rw [h] at h' <;> cases h' <;> rfl
  | false => rcases h with h | ⟨o, h⟩ <;> rcases h' with h' | ⟨o', h'⟩ <;> rw [h] at h' <;> cases h' <;> rfl
section
variable {X : Cx} {pins : List (Addr × Obj)} {σ : L2.St} {H : Hp} {s : Shared} {a : Addr} {xs : List V} {k : Bool}
theorem src_at (I : Inv X pins σ H s) (h : Src k H a xs) : ∃ its : List Value, Vals xs its ∧ SrcH k s.heap a its.toArray := by
  cases k with
  | true =>
    obtain ⟨its, rv, p, _⟩ := I.list (SqL.of (K := X.K) (H := H) (a := a) (xs := xs) |> fun _ => (Or.inl h : SqL X.K H a xs))
    exact ⟨its, rv, p.isList⟩
  | false =>
    obtain ⟨its, rv, p, _⟩ := I.tuple (Or.inl h : SqT X.K H a xs)
    exact ⟨its, rv, p⟩
theorem src_draws {prog : Program} {w : World} {A : Around} (hh : A.handled = none) (it : Addr) (hne : a ≠ it) (items : Array Value) :
    Draws prog w A it [it, a] items.size (fun i v => items[i]? = some v) (fun i h => SrcIt k h it a i ∧ SrcH k h a items) := by
  cases k with
  | true => exact Draws.list hh it a hne items
  | false => exact Draws.tuple hh it a hne items
theorem src_begins (items : Array Value) : Begins (.ref a) (itO k a) fun h => SrcH k h a items := by
  cases k with
  | true => exact begins_list a items
  | false => exact begins_tuple a items
theorem srcIt_new {h : Heap} {it : Addr} (e : h.get? it = some (itO k a)) : SrcIt k h it a 0 := by
  cases k with
  | true => exact ⟨_, e, rfl, rfl⟩
  | false => exact ⟨_, e, rfl, rfl⟩
theorem srcIt_at {h h' : Heap} {it : Addr} {i : Nat} (st : SrcIt k h it a i) (e : ∀ o, h.get? it = some o → h'.get? it = some o) : SrcIt k h' it a i := by
  cases k with
  | true => exact st.at e
  | false => exact st.at e
theorem srcIt_obj {h : Heap} {it : Addr} {i : Nat} (st : SrcIt k h it a i) : ∃ o, h.get? it = some o ∧ ∀ v, o.data ≠ .cell v := by
  cases k with
  | true => obtain ⟨o, e, _, d⟩ := st; exact ⟨o, e, fun v q => by rw [d] at q; cases q⟩
  | false => obtain ⟨o, e, _, d⟩ := st; exact ⟨o, e, fun v q => by rw [d] at q; cases q⟩
end

def IteK (k : Bool) (a : Addr) : It :=
  ⟨fun i H => ∃ (xs : List V) (x : V), Src k H a xs ∧ xs[i]? = some x, fun i H v H' => ∃ T x, v = .ref T ∧ H T = none ∧ H' = upd H T (.tup [.int (i : Nat), x]) ∧ ∀ xs, Src k H a xs → xs[i]? = some x, fun i H => ∃ xs : List V, Src k H a xs ∧ xs.length = i⟩
theorem turn_enumK {P : Program} {w : World} {K : FR} {elts : List Expr} {kk : Nat} {tpos : Pos} (k : Bool) (a e it : Addr) :
    Turn P w K (.Tuple elts kk tpos) (IteK k a) [e, it] e (fun i h => (∃ old, IsEnum h e it ((i : Nat) : Int) old) ∧ SrcIt k h it a i ∧ e ≠ it) where
  mem := by simp
  obj := fun i h st b hb => by
    obtain ⟨⟨old, he⟩, hit, _⟩ := st
    have e' : b = e ∨ b = it := by simpa using hb
    rcases e' with z | z
    · rw [z]; exact ⟨_, he, fun v q => nomatch q⟩
    · rw [z]; exact srcIt_obj hit
  keep := fun i h h' st k => let ⟨⟨old, he⟩, hi, hne⟩ := st; ⟨⟨old, k e (by simp) _ he⟩, srcIt_at hi fun o q => k it (by simp) o q, hne⟩
  item := by
    intro X hP hw hK hc i pins s σ H E I hf st hg
    subst hP hw hK
    obtain ⟨⟨old, he⟩, hit, hne⟩ := st
    obtain ⟨xs, x, hq, hx⟩ := hg
    obtain ⟨its, rv, p⟩ := src_at I hq
    obtain ⟨u, hu, ru⟩ := rv.get hx
    have hel : e < s.heap.objs.size := Heap.lt_size he
    have hil : it < s.heap.objs.size := by obtain ⟨o, q, _⟩ := srcIt_obj hit; exact Heap.lt_size q
    have nai : a ≠ it := fun z => src_some hq (by rw [z]; exact (hf it (by simp)).1)
    have nae : e ≠ a := fun z => src_some hq (by rw [← z]; exact (hf e (by simp)).1)
    have hil2 : i < its.toArray.size := by
      have := (List.getElem?_eq_some_iff.mp hu).1
      simpa using this
    refine wpAny_pyNext_enum_itemC (src_draws (k := k) (A := X.A.in1) (I.ok.hd hc) it nai its.toArray) he ⟨hit, p⟩ hil2 hne (by simp [hne, nae]) fun y h' tk hP ho hst' hT hsz hk => ?_
    obtain ⟨hit', _⟩ := hst'
    have hyu : y = u := by
      have z : its.toArray[i]? = some u := by simpa using hu
      rw [z] at hP
      exact (Option.some.inj hP).symm
    subst hyu
    refine ⟨_, rfl, wpAny_letOwnedTupleGo_enum (s := { s with heap := h', toks := tk + 1 }) ho fun h'' he' sb => ?_⟩
    have hT2 : h''.get? s.heap.objs.size = some { cls := .type "tuple", data := .seq #[.int i tk, y] } := (sb.2 _ (Nat.ne_of_gt hel)).trans hT
    have new : ObjOk X.prog X.w (upd H s.heap.objs.size (.tup [.int (i : Nat), x])) h'' s.heap.objs.size (.tup [.int (i : Nat), x]) :=
      ⟨by show 2 ≤ sizeLine; decide, [.int i tk, y], .cons ⟨_, rfl⟩ (.cons ru .nil), ⟨_, hT2, rfl, _, rfl⟩⟩
    have I1 : Inv X pins σ (upd H s.heap.objs.size (.tup [.int (i : Nat), x])) { s with heap := h'', toks := tk + 1 } :=
      I.turnedNew (ch := [e, it]) (fun b ob hb q => (sb.2 b (fun z => hb (by simp [z]))).trans (hk b ob (fun z => hb (by simp [z])) (fun z => hb (by simp [z])) q)) hf (Nat.le_refl _) new
    refine ⟨.ref s.heap.objs.size, _, I1, rfl, ⟨_, x, rfl, I.hok.fresh (Nat.le_refl _), rfl, fun ys hy => by rw [src_inj hy hq]; exact hx⟩, ⟨⟨y, ?_⟩, srcIt_at hit' fun o q => (sb.2 it (Ne.symm hne)).trans q, hne⟩, fun b hb => ?_⟩
    · have e1 : ((i + 1 : Nat) : Int) = (i : Int) + 1 := by omega
      rw [e1]; exact he'
    · have hb' : b < s.heap.objs.size := by
        have e' : b = e ∨ b = it := by simpa using hb
        rcases e' with z | z
        · rw [z]; exact hel
        · rw [z]; exact hil
      rw [upd_ne (Nat.ne_of_lt hb')]
      exact (hf b hb).1
  done := by
    intro X hP hw hK hc i pins s σ H E I hf st hg
    subst hP hw hK
    obtain ⟨⟨old, he⟩, hit, hne⟩ := st
    obtain ⟨xs, hq, hx⟩ := hg
    obtain ⟨its, rv, p⟩ := src_at I hq
    have nai : a ≠ it := fun z => src_some hq (by rw [z]; exact (hf it (by simp)).1)
    obtain ⟨f0, f1, f2, f3, f4, f5⟩ := hf it (by simp)
    have hl := rv.length
    have hn : its.toArray.size = i := by simp; omega
    exact wpAny_pyNext_enum_endD (src_draws (k := k) (A := X.A.in1) (I.ok.hd hc) it nai its.toArray) he (by rw [hn]; exact ⟨hit, p⟩) fun h' eb => ⟨rfl, I.turned (t' := s.toks) (fun b o hb q => eb b o hb q) f0 f1 f3 f4 f5⟩
  self := fun A i s Q E st h => let ⟨⟨_, he⟩, _⟩ := st; wpAny_pyIter_enum he h
def iEnumK (ta : TA) : TI := fun σ H R => ta σ H fun vs H1 => ∃ k a xs, vs = [.ref a] ∧ Src k H1 a xs ∧ R (IteK k a) H1
theorem pi_enumK {X : Cx} {e : Expr} {ta : TA} {p pos tpos : Pos} {elts : List Expr} {kk : Nat} (hg : Gl X "enumerate") (hm : X.mg "enumerate" = none) (ha : PA X [e] ta) (hs : starEach [e] X.env = [(false, eval e X.env)] := by rfl) :
    PI X (.Tuple elts kk tpos) (.Call (.Name "enumerate" p) [e] [] pos) (iEnumK ta) := by
  refine ⟨fun pins s σ H R I h => ?_⟩
  refine Call_ (ld_blt I hg hm PyProof.Rows.boot_enumerate (PyProof.Rows.callWith_type1 (thn (ha.run pos pins s σ H _ I h) fun us s1 ⟨vs, H1, I1, r1, q1⟩ => ?_) hs rfl))
  obtain ⟨k, a, xs, ex, hq, q⟩ := q1
  subst ex
  cases r1 with
  | cons r rr =>
    cases rr
    cases r
    obtain ⟨its, rv, p'⟩ := src_at I1 hq
    refine enum_begins1 (src_begins (k := k) its.toArray) p' fun h' he hit hsz hk => wpAny_pyIter_enum he ?_
    have I2 : Inv X pins σ H1 { s1 with heap := h' } := I1.kept (t' := s1.toks) hk
    refine ⟨s1.heap.objs.size + 1, [s1.heap.objs.size + 1, s1.heap.objs.size], _, _, H1, rfl, I2, turn_enumK k a (s1.heap.objs.size + 1) s1.heap.objs.size, ⟨⟨.none, he⟩, srcIt_new hit, Nat.succ_ne_self _⟩, fun b hb => ?_, q⟩
    have e' : b = s1.heap.objs.size + 1 ∨ b = s1.heap.objs.size := by simpa using hb
    have hle : s1.heap.objs.size ≤ b := by
      rcases e' with z | z
      · rw [z]; exact Nat.le_add_right _ _
      · rw [z]; exact Nat.le_refl _
    exact I1.fpOk hle (I1.hok.fresh hle)

def ItzK (k1 k2 : Bool) (a b : Addr) : It :=
  ⟨fun i H => ∃ (xs ys : List V) (x y : V), Src k1 H a xs ∧ Src k2 H b ys ∧ xs[i]? = some x ∧ ys[i]? = some y,
    fun i H v H' => ∃ T x y, v = .ref T ∧ H T = none ∧ H' = upd H T (.tup [x, y]) ∧ (∀ xs, Src k1 H a xs → xs[i]? = some x) ∧ ∀ ys, Src k2 H b ys → ys[i]? = some y,
    fun i H => ∃ xs ys : List V, Src k1 H a xs ∧ Src k2 H b ys ∧ i ≤ xs.length ∧ i ≤ ys.length ∧ (xs.length = i ∨ ys.length = i)⟩
theorem turn_zipK {P : Program} {w : World} {K : FR} {elts : List Expr} {kk : Nat} {tpos : Pos} (k1 k2 : Bool) {a b z TI TO i1 i2 : Addr} (dz : TI ≠ z ∧ TO ≠ z ∧ TI ≠ TO ∧ TI ≠ i1 ∧ TI ≠ i2 ∧ z ≠ i1 ∧ z ≠ i2 ∧ TO ≠ i1 ∧ TO ≠ i2 ∧ i1 ≠ i2) :
    Turn P w K (.Tuple elts kk tpos) (ItzK k1 k2 a b) [z, TI, TO, i1, i2] z (fun i h => IsZip h z TI TO .none ∧ IsTupOf2 h TI (.ref i1) (.ref i2) ∧ (∃ x y, IsTupOf2 h TO x y) ∧ SrcIt k1 h i1 a i ∧ SrcIt k2 h i2 b i) where
  mem := by simp
  obj := fun i h st c hc => by
    obtain ⟨hz, hTI, ⟨x, y, hTO⟩, h1, h2⟩ := st
    have e' : c = z ∨ c = TI ∨ c = TO ∨ c = i1 ∨ c = i2 := by simpa using hc
    rcases e' with q | q | q | q | q
    · rw [q]; exact ⟨_, hz, fun v q => nomatch q⟩
    · rw [q]; exact ⟨_, hTI, fun v q => nomatch q⟩
    · rw [q]; exact ⟨_, hTO, fun v q => nomatch q⟩
    · rw [q]; exact srcIt_obj h1
    · rw [q]; exact srcIt_obj h2
  keep := fun i h h' st k => by
    obtain ⟨hz, hTI, ⟨x, y, hTO⟩, h1, h2⟩ := st
    exact ⟨k z (by simp) _ hz, k TI (by simp) _ hTI, ⟨x, y, k TO (by simp) _ hTO⟩, srcIt_at h1 fun o q => k i1 (by simp) o q, srcIt_at h2 fun o q => k i2 (by simp) o q⟩
  item := by
    intro X hP hw hK hc i pins s σ H E I hf st hg
    subst hP hw hK
    obtain ⟨d1, d2, d3, d4, d5, d6, d7, d8, d9, d10⟩ := dz
    obtain ⟨hz, hTI, ⟨x0, y0, hTO⟩, h1, h2⟩ := st
    obtain ⟨xs, ys, x, y, hqx, hqy, hx, hy⟩ := hg
    obtain ⟨its, rv, p⟩ := src_at I hqx
    obtain ⟨its2, rv2, p2⟩ := src_at I hqy
    obtain ⟨u, hu, ru⟩ := rv.get hx
    obtain ⟨u2, hu2, ru2⟩ := rv2.get hy
    have hzl : z < s.heap.objs.size := Heap.lt_size hz
    have na : ∀ c, c ∈ [z, TI, TO, i1, i2] → a ≠ c := fun c hcm q => src_some hqx (by rw [q]; exact (hf c hcm).1)
    have nb : ∀ c, c ∈ [z, TI, TO, i1, i2] → b ≠ c := fun c hcm q => src_some hqy (by rw [q]; exact (hf c hcm).1)
    have S : ZipSep2 z TI TO i1 i2 [i1, a] [i2, b] := ⟨d1, d2, d3, d4, by simp, by simp [d6, Ne.symm (na z (by simp))], by simp [d8, Ne.symm (na TO (by simp))], d5, by simp, by simp [d7, Ne.symm (nb z (by simp))], by simp [d9, Ne.symm (nb TO (by simp))], by simp [d10, Ne.symm (nb i1 (by simp))], by simp [Ne.symm d10, Ne.symm (na i2 (by simp))]⟩
    have l1 : i < its.toArray.size := by
      have := (List.getElem?_eq_some_iff.mp hu).1
      simpa using this
    have l2 : i < its2.toArray.size := by
      have := (List.getElem?_eq_some_iff.mp hu2).1
      simpa using this
    refine wpAny_pyNext_zipD2_item S (src_draws (k := k1) (A := X.A.in1) (I.ok.hd hc) i1 (na i1 (by simp)) its.toArray) (src_draws (k := k2) (A := X.A.in1) (I.ok.hd hc) i2 (nb i2 (by simp)) its2.toArray) hz hTI hTO ⟨h1, p⟩ ⟨h2, p2⟩ l1 l2 fun v1 v2 h' tk hP1 hP2 z' TO' st1 st2 hT hsz hk => ?_
    have e1 : v1 = u := by
      have q : its.toArray[i]? = some u := by simpa using hu
      rw [q] at hP1
      exact (Option.some.inj hP1).symm
    have e2 : v2 = u2 := by
      have q : its2.toArray[i]? = some u2 := by simpa using hu2
      rw [q] at hP2
      exact (Option.some.inj hP2).symm
    subst e1 e2
    refine ⟨_, rfl, wpAny_letOwnedTupleGo_zip (s := { s with heap := h', toks := tk }) z' fun h'' z'' sb => ?_⟩
    have hT2 : h''.get? s.heap.objs.size = some { cls := .type "tuple", data := .seq #[v1, v2] } := (sb.2 _ (Nat.ne_of_gt hzl)).trans hT
    have new : ObjOk X.prog X.w (upd H s.heap.objs.size (.tup [x, y])) h'' s.heap.objs.size (.tup [x, y]) :=
      ⟨by show 2 ≤ sizeLine; decide, [v1, v2], .cons ru (.cons ru2 .nil), ⟨_, hT2, rfl, _, rfl⟩⟩
    have I1 : Inv X pins σ (upd H s.heap.objs.size (.tup [x, y])) { s with heap := h'', toks := tk } :=
      I.turnedNew (ch := [z, TI, TO, i1, i2]) (fun c o hb q => (sb.2 c (fun q' => hb (by simp [q']))).trans (hk c o (fun q' => hb (by simp [q'])) (fun q' => hb (by simp [q'])) (fun q' => hb (by simp [q'])) (fun q' => hb (by simp [q'])) q)) hf (Nat.le_refl _) new
    refine ⟨.ref s.heap.objs.size, _, I1, rfl, ⟨_, x, y, rfl, I.hok.fresh (Nat.le_refl _), rfl, fun l hl => by rw [src_inj hl hqx]; exact hx, fun l hl => by rw [src_inj hl hqy]; exact hy⟩, ⟨z'', ?_, ⟨v1, v2, ?_⟩, ?_, ?_⟩, fun c hcm => ?_⟩
    · exact (sb.2 _ d1).trans (hk _ _ d1 d3 d4 d5 hTI)
    · exact (sb.2 _ d2).trans TO'
    · exact srcIt_at st1.1 fun o q => (sb.2 _ (Ne.symm d6)).trans q
    · exact srcIt_at st2.1 fun o q => (sb.2 _ (Ne.symm d7)).trans q
    · have hlt : c < s.heap.objs.size := by
        have e' : c = z ∨ c = TI ∨ c = TO ∨ c = i1 ∨ c = i2 := by simpa using hcm
        rcases e' with q | q | q | q | q
        · rw [q]; exact hzl
        · rw [q]; exact Heap.lt_size hTI
        · rw [q]; exact Heap.lt_size hTO
        · rw [q]; obtain ⟨_, e1, _⟩ := srcIt_obj h1; exact Heap.lt_size e1
        · rw [q]; obtain ⟨_, e2, _⟩ := srcIt_obj h2; exact Heap.lt_size e2
      rw [upd_ne (Nat.ne_of_lt hlt)]
      exact (hf c hcm).1
  done := by
    intro X hP hw hK hc i pins s σ H E I hf st hg
    subst hP hw hK
    obtain ⟨d1, d2, d3, d4, d5, d6, d7, d8, d9, d10⟩ := dz
    obtain ⟨hz, hTI, ⟨x0, y0, hTO⟩, h1, h2⟩ := st
    obtain ⟨xs, ys, hqx, hqy, le1, le2, hend⟩ := hg
    obtain ⟨its, rv, p⟩ := src_at I hqx
    obtain ⟨its2, rv2, p2⟩ := src_at I hqy
    have na : ∀ c, c ∈ [z, TI, TO, i1, i2] → a ≠ c := fun c hcm q => src_some hqx (by rw [q]; exact (hf c hcm).1)
    have nb : ∀ c, c ∈ [z, TI, TO, i1, i2] → b ≠ c := fun c hcm q => src_some hqy (by rw [q]; exact (hf c hcm).1)
    have S : ZipSep2 z TI TO i1 i2 [i1, a] [i2, b] := ⟨d1, d2, d3, d4, by simp, by simp [d6, Ne.symm (na z (by simp))], by simp [d8, Ne.symm (na TO (by simp))], d5, by simp, by simp [d7, Ne.symm (nb z (by simp))], by simp [d9, Ne.symm (nb TO (by simp))], by simp [d10, Ne.symm (nb i1 (by simp))], by simp [Ne.symm d10, Ne.symm (na i2 (by simp))]⟩
    have l1 := rv.length
    have l2 := rv2.length
    exact wpAny_pyNext_zipD2_end S (src_draws (k := k1) (A := X.A.in1) (I.ok.hd hc) i1 (na i1 (by simp)) its.toArray) (src_draws (k := k2) (A := X.A.in1) (I.ok.hd hc) i2 (nb i2 (by simp)) its2.toArray) hz hTI hTO ⟨h1, p⟩ ⟨h2, p2⟩
      (by simp; omega) (by simp; omega) (by rcases hend with q | q; · exact .inl (by simp; omega)
                                            · exact .inr (by simp; omega)) fun h' tk hk => ⟨rfl, I.turnedL (t' := tk) (ch := [z, TI, TO, i1, i2]) (fun c o hb q =>
      hk c o (fun q' => hb (by simp [q'])) (fun q' => hb (by simp [q'])) (fun q' => hb (by simp [q'])) (fun q' => hb (by simp [q'])) q) hf⟩
  self := fun A i s Q E st h => wpAny_pyIter_zip st.1 h
def iZipK (ta : TA) : TI := fun σ H R => ta σ H fun vs H1 => ∃ k1 k2 a b xs ys, vs = [.ref a, .ref b] ∧ Src k1 H1 a xs ∧ Src k2 H1 b ys ∧ R (ItzK k1 k2 a b) H1
theorem pi_zipK {X : Cx} {e e2 : Expr} {ta : TA} {p pos tpos : Pos} {elts : List Expr} {kk : Nat} (hg : Gl X "zip") (hm : X.mg "zip" = none) (ha : PA X [e, e2] ta)
    (hs : starEach [e, e2] X.env = (false, eval e X.env) :: starEach [e2] X.env := by rfl) (hpl : (backTo pos (starEach [e2] X.env)).any (·.1) = false := by rfl) :
    PI X (.Tuple elts kk tpos) (.Call (.Name "zip" p) [e, e2] [] pos) (iZipK ta) := by
  refine ⟨fun pins s σ H R I h => ?_⟩
  refine Call_ (ld_blt I hg hm PyProof.Rows.boot_zip (PyProof.Rows.callWith_type1 (thn (ha.run pos pins s σ H _ I h) fun us s1 ⟨vs, H1, I1, r1, q1⟩ => ?_) hs hpl))
  obtain ⟨k1, k2, a, b, xs, ys, ex, hqx, hqy, q⟩ := q1
  subst ex
  cases r1 with
  | cons r rr =>
    cases rr with
    | cons r' rr =>
      cases rr
      cases r
      cases r'
      obtain ⟨its, rv, p1⟩ := src_at I1 hqx
      obtain ⟨its2, rv2, p2⟩ := src_at I1 hqy
      refine zip_begins2 (src_begins (k := k1) its.toArray) (src_begins (k := k2) its2.toArray) p1 p2 fun h' hz hTI hTO h1 h2 hsz hk => wpAny_pyIter_zip hz ?_
      have I2 : Inv X pins σ H1 { s1 with heap := h' } := I1.kept (t' := s1.toks) hk
      refine ⟨s1.heap.objs.size + 4, [s1.heap.objs.size + 4, s1.heap.objs.size + 2, s1.heap.objs.size + 3, s1.heap.objs.size, s1.heap.objs.size + 1], _, _, H1, rfl, I2, turn_zipK k1 k2 (a := a) (b := b) ?_, ⟨hz, hTI, ⟨_, _, hTO⟩, srcIt_new h1, srcIt_new h2⟩, fun c hcm => ?_, q⟩
      · generalize s1.heap.objs.size = N
        exact ⟨show (N + 2 : Nat) ≠ N + 4 by omega, show (N + 3 : Nat) ≠ N + 4 by omega, show (N + 2 : Nat) ≠ N + 3 by omega, show (N + 2 : Nat) ≠ N by omega, show (N + 2 : Nat) ≠ N + 1 by omega, show (N + 4 : Nat) ≠ N by omega, show (N + 4 : Nat) ≠ N + 1 by omega, show (N + 3 : Nat) ≠ N by omega, show (N + 3 : Nat) ≠ N + 1 by omega, show (N : Nat) ≠ N + 1 by omega⟩
      · have hle : s1.heap.objs.size ≤ c := by
          have e' : c = s1.heap.objs.size + 4 ∨ c = s1.heap.objs.size + 2 ∨ c = s1.heap.objs.size + 3 ∨ c = s1.heap.objs.size ∨ c = s1.heap.objs.size + 1 := by simpa using hcm
          rcases e' with z | z | z | z | z
          · rw [z]; exact Nat.le_add_right _ _
          · rw [z]; exact Nat.le_add_right _ _
          · rw [z]; exact Nat.le_add_right _ _
          · rw [z]; exact Nat.le_refl _
          · rw [z]; exact Nat.le_add_right _ _
        exact I1.fpOk hle (I1.hok.fresh hle)

/-! ### against data -/
section
variable {K : FR} {c : Ctx K} {a0 a a1 : c.W.A} {g g1 : c.W.G} {F0 H0 F H F1 H1 : Hp}
theorem datSeq_src {x : V} {v : Vl} {l : List PyData} (h : datSeq v = some l) (e : Ext c.W a F H a1 F1 H1) (t : c.W.at_ a1 g1 F1 H1) (i : IsV c.W a1 F1 H1 x v) (n : IsN H x v) :
    ∃ k p xs F2, x = .ref p ∧ Src k F2 p xs ∧ DpAll K F2 xs l ∧ Ext c.W a F H a1 F2 H1 ∧ c.W.at_ a1 g1 F2 H1 ∧ (∀ b o, F1 b = some o → F2 b = some o) := by
  cases v with
  | tok m => cases h
  | lent m => cases h
  | dat d =>
    cases d with
    | list m => cases h; cases i with | lst h1 h2 => exact ⟨true, _, _, F1, rfl, h1, h2, e, t, fun _ _ z => z⟩
    | tuple m => cases h; cases i with | tup h1 h2 => exact ⟨false, _, _, F1, rfl, h1, h2, e, t, fun _ _ z => z⟩
    | _ => cases h
  | own m =>
    cases h
    have hd := frz_dp (H := H) i n (show (Vl.own l).frz = some (.list l) from rfl)
    obtain ⟨p, xs, rfl, _⟩ := i
    cases hd with
    | lst h1 h2 => exact ⟨true, _, _, _, rfl, h1, h2, letGo_ext e, letGo_at e t, fun b o z => letGo_ff b o z⟩
theorem enumL_at : ∀ {l : List PyData} {k i : Nat} {d : PyData}, l[i]? = some d → (enumL k l)[i]? = some (.tuple [.int ((k + i : Nat) : Int), d])
  | [], _, _, _, h => by simp at h
  | d :: ds, k, 0, e, h => by simp at h; subst h; simp [enumL]
  | d :: ds, k, i + 1, e, h => by
    have := enumL_at (l := ds) (k := k + 1) (i := i) (d := e) (by simpa using h)
    simp only [enumL, List.getElem?_cons_succ]
    rw [this]
    have : k + 1 + i = k + (i + 1) := by omega
    rw [this]
theorem enumL_len : ∀ (l : List PyData) (k : Nat), (enumL k l).length = l.length
  | [], _ => rfl
  | _ :: ds, k => by simp [enumL, enumL_len ds]
theorem zipL_len : ∀ (l m : List PyData), (zipL l m).length = min l.length m.length
  | [], _ => by simp [zipL]
  | _ :: _, [] => by simp [zipL]
  | _ :: l, _ :: m => by simp [zipL, zipL_len l m]
theorem zipL_at : ∀ {l m : List PyData} {i : Nat} {d e : PyData}, l[i]? = some d → m[i]? = some e → (zipL l m)[i]? = some (.tuple [d, e])
  | [], _, _, _, _, h, _ => by simp at h
  | _ :: _, [], _, _, _, _, h => by simp at h
  | a :: l, b :: m, 0, d, e, h, h2 => by simp at h h2; subst h; subst h2; simp [zipL]
  | a :: l, b :: m, i + 1, d, e, h, h2 => by
    simp only [zipL, List.getElem?_cons_succ]
    exact zipL_at (by simpa using h) (by simpa using h2)
theorem wk_enum {k : Bool} {p : Addr} {xs : List V} {l : List PyData} (h : Src k F p xs) (hd : DpAll K F xs l) : Wk K (IteK k p) (enumL 0 l) F := by
  refine ⟨fun H => Src k H p xs, YPair (fun i => some (.int (i : Nat))) (fun i => xs[i]?), ⟨fun i H hi q => ?_, fun H q => ⟨xs, q, by rw [enumL_len, dps_len hd]⟩, fun i H x H' hi q y => ?_⟩, fun F2 H2 e1 e2 => src_mono e2 (src_mono e1 h), fun i F2 H2 x H3 e1 e2 y hi => ?_⟩
  · rw [enumL_len, ← dps_len hd] at hi
    exact ⟨xs, xs[i], q, List.getElem?_eq_getElem hi⟩
  · obtain ⟨T, z, h1, h2, h3, h4⟩ := y
    exact ⟨T, .int (i : Nat), z, h1, h2, h3, rfl, h4 xs q⟩
  · obtain ⟨T, u, v, rfl, hT, rfl, hu, hv⟩ := y
    cases hu
    rw [enumL_len] at hi
    obtain ⟨w, h1, h2⟩ := dps_at (d := l[i]) hd (List.getElem?_eq_getElem hi)
    have hv' : xs[i]? = some v := hv
    rw [hv'] at h1
    cases h1
    have e3 := PExt.new (o := .tup [.int (i : Nat), v]) e2 hT
    refine ⟨_, _, e3, enumL_at (List.getElem?_eq_getElem hi), .tup (Rd.of upd_same) ?_⟩
    rw [Nat.zero_add]
    exact .cons (.int _) (.cons (dp_mono e3.ff _ (dp_mono e1 _ h2)) .nil)
theorem wk_zip {k1 k2 : Bool} {p q : Addr} {xs ys : List V} {l m : List PyData} (h : Src k1 F p xs) (hd : DpAll K F xs l) (h2 : Src k2 F q ys) (hd2 : DpAll K F ys m) : Wk K (ItzK k1 k2 p q) (zipL l m) F := by
  have l1 := dps_len hd
  have l2 := dps_len hd2
  refine ⟨fun H => Src k1 H p xs ∧ Src k2 H q ys, YPair (fun i => xs[i]?) (fun i => ys[i]?), ⟨fun i H hi z => ?_, fun H z => ⟨xs, ys, z.1, z.2, ?_⟩, fun i H x H' hi z y => ?_⟩, fun F2 H2 e1 e2 => ⟨src_mono e2 (src_mono e1 h), src_mono e2 (src_mono e1 h2)⟩, fun i F2 H2 x H3 e1 e2 y hi => ?_⟩
  · rw [zipL_len] at hi
    have i1 : i < xs.length := by omega
    have i2 : i < ys.length := by omega
    exact ⟨xs, ys, xs[i], ys[i], z.1, z.2, List.getElem?_eq_getElem i1, List.getElem?_eq_getElem i2⟩
  · rw [zipL_len]
    omega
  · obtain ⟨T, u, v, h1, h2, h3, h4, h5⟩ := y
    exact ⟨T, u, v, h1, h2, h3, h4 xs z.1, h5 ys z.2⟩
  · obtain ⟨T, u, v, rfl, hT, rfl, hu, hv⟩ := y
    rw [zipL_len] at hi
    have i1 : i < l.length := by omega
    have i2 : i < m.length := by omega
    obtain ⟨w1, w2, w3⟩ := dps_at (d := l[i]) hd (List.getElem?_eq_getElem i1)
    obtain ⟨y1, y2, y3⟩ := dps_at (d := m[i]) hd2 (List.getElem?_eq_getElem i2)
    have hu' : xs[i]? = some u := hu
    have hv' : ys[i]? = some v := hv
    rw [hu'] at w2
    cases w2
    rw [hv'] at y2
    cases y2
    have e3 := PExt.new (o := .tup [u, v]) e2 hT
    exact ⟨_, _, e3, zipL_at (List.getElem?_eq_getElem i1) (List.getElem?_eq_getElem i2), .tup (Rd.of upd_same) (.cons (dp_mono e3.ff _ (dp_mono e1 _ w3)) (.cons (dp_mono e3.ff _ (dp_mono e1 _ y3)) .nil))⟩
theorem si_enum {t : TE} {m : ME c.W.G} (h : SoundE c t m) : SoundI c (iEnumK (tCons t tNil)) (CW.iEnum m) := by
  intro a0 F0 H0 a g F H s r Rk rp post
  refine h _ _ _ _ _ _ _ _ _ _ rp ?_
  unfold CW.iEnum at post
  cases h : m r g with
  | no => rw [h] at post; exact post
  | er e g1 => rw [h] at post; exact post
  | ok u g1 =>
    rw [h] at post
    simp only [R.bind_ok] at post
    intro a1 F1 H1 x e1 t1 i1 n1
    cases hu : datSeq u with
    | none => rw [hu] at post; exact post.elim
    | some l =>
      rw [hu] at post
      obtain ⟨k, p, xs, F2, rfl, hs, hd, e2, t2, f2⟩ := datSeq_src hu e1 t1 i1 n1
      exact ⟨k, p, xs, rfl, src_mono e2.fh hs, post a1 F2 H1 _ e2 t2 (wk_enum hs hd)⟩
theorem si_zip {t t' : TE} {m m' : ME c.W.G} (h : SoundE c t m) (h' : SoundE c t' m') : SoundI c (iZipK (tCons t (tCons t' tNil))) (CW.iZip m m') := by
  intro a0 F0 H0 a g F H s r Rk rp post
  refine h _ _ _ _ _ _ _ _ _ _ rp ?_
  unfold CW.iZip at post
  cases hm : m r g with
  | no => rw [hm] at post; exact post
  | er e g1 => rw [hm] at post; exact post
  | ok u g1 =>
    rw [hm] at post
    simp only [R.bind_ok] at post
    intro a1 F1 H1 x e1 t1 i1 n1
    refine h' _ _ _ _ _ _ _ _ _ _ (rp.step e1 t1) ?_
    cases hm2 : m' r g1 with
    | no => rw [hm2] at post; exact post
    | er e g2 =>
      rw [hm2] at post
      exact fun a' F' H' C d e' t i => post a' F' H' C d (e1.trans e') t i
    | ok v g2 =>
      rw [hm2] at post
      simp only [R.bind_ok] at post
      intro a2 F2 H2 y e2 t2 i2 n2
      cases hu : datSeq u with
      | none => rw [hu] at post; exact post.elim
      | some l =>
        cases hv : datSeq v with
        | none => rw [hu, hv] at post; exact post.elim
        | some mm =>
          rw [hu, hv] at post
          have e12 := e1.trans e2
          obtain ⟨k, p, xs, F3, rfl, hs, hd, e3, t3, f3⟩ := datSeq_src hu e12 t2 (i1.step e2) n1
          have i3 : IsV c.W a2 F3 H2 y v ∨ ∃ l, v = .own l := by
            cases v with
            | own l => exact .inr ⟨l, rfl⟩
            | dat d => exact .inl (dp_mono f3 _ i2)
            | tok n => exact .inl i2
            | lent l => cases hv
          rcases i3 with i3 | ⟨l', rfl⟩
          · obtain ⟨k2, p2, ys, F4, rfl, hs2, hd2, e4, t4, f4⟩ := datSeq_src hv e3 t3 i3 (n2.back e1.al)
            exact ⟨k, k2, p, p2, xs, ys, rfl, src_mono e4.fh (src_mono f4 hs), src_mono e4.fh hs2, post a2 F4 H2 _ e4 t4 (wk_zip (src_mono f4 hs) (dps_mono f4 _ hd) hs2 hd2)⟩
          · cases hv
            have hd2 := frz_dp (H := H) i2 (n2.back e1.al) (show (Vl.own mm).frz = some (.list mm) from rfl)
            cases u with
            | dat du =>
              have hd1 := frz_dp (H := H) (i1.step e2) n1 (show (Vl.dat du).frz = some du from rfl)
              obtain ⟨q, zs, rfl, _⟩ := i2
              cases hd2 with
              | lst g1' g2' =>
                have e5 := letGo_ext e12
                cases du with
                | list l0 => cases hu; cases hd1 with | lst k1' k2' => exact ⟨true, true, _, _, _, _, rfl, rd_mono (u := .lst _) e5.fh k1', rd_mono (u := .lst _) e5.fh g1', post a2 _ H2 _ e5 (letGo_at e12 t2) (wk_zip (k1 := true) (k2 := true) k1' k2' g1' g2')⟩
                | tuple l0 => cases hu; cases hd1 with | tup k1' k2' => exact ⟨false, true, _, _, _, _, rfl, rd_mono (u := .tup _) e5.fh k1', rd_mono (u := .lst _) e5.fh g1', post a2 _ H2 _ e5 (letGo_at e12 t2) (wk_zip (k1 := false) (k2 := true) k1' k2' g1' g2')⟩
                | _ => cases hu
            | own lu =>
              cases hu
              have hd1 := frz_dp (H := H) (i1.step e2) n1 (show (Vl.own l).frz = some (.list l) from rfl)
              have e5 := letGo_ext e12
              obtain ⟨q, zs, rfl, _⟩ := i2
              obtain ⟨q', zs', eq', _⟩ := i1
              cases eq'
              cases hd2 with
              | lst g1' g2' => cases hd1 with | lst k1' k2' => exact ⟨true, true, _, _, _, _, rfl, rd_mono (u := .lst _) e5.fh k1', rd_mono (u := .lst _) e5.fh g1', post a2 _ H2 _ e5 (letGo_at e12 t2) (wk_zip (k1 := true) (k2 := true) k1' k2' g1' g2')⟩
            | _ => cases hu
end
end CW
/-! CwOps2: in, subscripts, slices, built-ins by values. -/
namespace CW
open PySem L2
section
variable {K : FR} {c : Ctx K} {a a1 : c.W.A} {g g1 : c.W.G} {F H F1 H1 : Hp}
/-! ### in -/
theorem flat_V {x : V} {d : PyData} (h : Dp K F x d) (f : flat d = true) : flatV x = true := by
  cases h <;> first | rfl | simp [flat] at f
theorem flat_Vs : ∀ {xs : List V} {l : List PyData}, DpAll K F xs l → l.all flat = true → xs.all flatV = true
  | _, _, .nil, _ => rfl
  | _, _, .cons h t, f => by
    simp only [List.all_cons, Bool.and_eq_true] at f ⊢
    exact ⟨flat_V h f.1, flat_Vs t f.2⟩
theorem flat_eq {x y : V} {d e : PyData} (h : Dp K F x d) (h' : Dp K F y e) (f : flat d = true) (f' : flat e = true) : eqV y x = deq e d := by
  cases h <;> first | (simp [flat] at f; done) | (cases h' <;> first | (simp [flat] at f'; done) | simp [eqV, deq])
theorem flat_in {x : V} {d : PyData} (h : Dp K F x d) (f : flat d = true) : ∀ {xs : List V} {l : List PyData}, DpAll K F xs l → l.all flat = true → inV x xs = l.any fun e => deq e d
  | _, _, .nil, _ => rfl
  | _, _, .cons h1 t, f' => by
    simp only [List.all_cons, Bool.and_eq_true] at f'
    have := flat_in h f t f'.2
    unfold inV at this ⊢
    simp only [List.any_cons]
    rw [this, flat_eq h h1 f f'.1]
def rInDT (K : FR) : R2 := fun x y H Q => ∃ d ds, L2.Dp K H x d ∧ L2.Dp K H y (.tuple ds) ∧ SeqAt.shaped d = true ∧ SeqAt.shaped (.tuple ds) = true ∧ Q (.bl (ds.any fun z => PyData.eqv z d)) H
def rNotInDT (K : FR) : R2 := fun x y H Q => ∃ d ds, L2.Dp K H x d ∧ L2.Dp K H y (.tuple ds) ∧ SeqAt.shaped d = true ∧ SeqAt.shaped (.tuple ds) = true ∧ Q (.bl (!ds.any fun z => PyData.eqv z d)) H
theorem op_inDT {X : Cx} (hu : X.A.units + 65 < cLine) : OpR X (compareOp .In) (rInDT X.K) := by
  intro pins s σ H x y v u Q I rx ry h
  obtain ⟨d, ds, hd, he, sd, se, q⟩ := h
  obtain ⟨as, r1⟩ := Dp.reads I d x v hd rx
  obtain ⟨bs, r2⟩ := Dp.reads I (.tuple ds) y u he ry
  exact SeqAt.in_tuple_reads r2 r1 (SeqAt.canLay_of_shaped se) (SeqAt.canLay_of_shaped sd) (PyProof.Rows.room_in_shaped sd hu) ⟨.bl _, H, I, rfl, q⟩
theorem op_notInDT {X : Cx} (hu : X.A.units + 65 < cLine) : OpR X (compareOp .NotIn) (rNotInDT X.K) := by
  intro pins s σ H x y v u Q I rx ry h
  obtain ⟨d, ds, hd, he, sd, se, q⟩ := h
  obtain ⟨as, r1⟩ := Dp.reads I d x v hd rx
  obtain ⟨bs, r2⟩ := Dp.reads I (.tuple ds) y u he ry
  exact SeqAt.notIn_tuple_reads r2 r1 (SeqAt.canLay_of_shaped se) (SeqAt.canLay_of_shaped sd) (PyProof.Rows.room_in_shaped sd hu) ⟨.bl _, H, I, rfl, q⟩
def rInA (K : FR) : R2 := fun x y H Q => rInD K x y H Q ∨ (rIn K false x y H Q ∨ ((∃ (c : Nat) (z : Str), x = .str ⟨#[c]⟩ ∧ y = .str z ∧ Q (.bl (decide (c ∈ z.cps.toList))) H) ∨ rInDT K x y H Q))
def rNotInA (K : FR) : R2 := fun x y H Q => rNotInD K x y H Q ∨ (rIn K true x y H Q ∨ ((∃ (c : Nat) (z : Str), x = .str ⟨#[c]⟩ ∧ y = .str z ∧ Q (.bl (!decide (c ∈ z.cps.toList))) H) ∨ rNotInDT K x y H Q))
theorem op_inA {X : Cx} (hu : X.A.units + 65 < cLine) : OpR X (compareOp .In) (rInA X.K) := OpR.or2 (op_inD hu) (OpR.or2 op_in_seq (OpR.or2 op_in_sign (op_inDT hu)))
theorem op_notInA {X : Cx} (hu : X.A.units + 65 < cLine) : OpR X (compareOp .NotIn) (rNotInA X.K) := OpR.or2 (op_notInD hu) (OpR.or2 op_notIn_seq (OpR.or2 op_notIn_sign (op_notInDT hu)))
theorem any_deq (l : List PyData) (d : PyData) : (l.any fun e => deq e d) = l.any fun z => PyData.eqv z d := by
  congr 1
  funext e
  exact deq_eqv e d
theorem sr_in_core {x y : V} {u v : Vl} {b : Bool} (sub : ∀ b o, F b = some o → H b = some o) (iu : IsV c.W a F H x u) (iv : IsV c.W a F H y v) (h : hasIn u v = some b) (Q : VK) (k : ∀ z, z = V.bl b → Q z H) : rInA K x y H Q := by
  unfold hasIn at h
  split at h
  · cases h
  · rename_i d hd
    split at h
    · rename_i l hl
      split at h
      · rename_i hs
        rw [Bool.and_eq_true] at hs
        cases h
        obtain ⟨p, xs, rfl, r, hx⟩ := iv.lst sub hl
        refine .inl ⟨d, l, iu.look sub hd, .lst (.inl r) (dps_lib _ (dps_mono sub _ hx)), shp_shaped hs.1, shp_shaped hs.2, k _ ?_⟩
        rw [any_deq]
      · cases h
    · split at h
      · rename_i l hl
        split at h
        · rename_i hs
          rw [Bool.and_eq_true] at hs
          cases h
          obtain ⟨p, xs, rfl, r, hx, _⟩ := iv.tup sub hl
          cases u with
          | dat d' =>
            cases hd
            have hx' := dps_mono sub _ hx
            have hd' := dp_mono sub _ iu
            exact .inr (.inl ⟨p, xs, rfl, .inr (.inl r), flat_V iu hs.1, flat_Vs hx hs.2, k _ (by rw [← flat_in iu hs.1 hx hs.2]; rfl)⟩)
          | tok n => cases hd
          | own m => cases hd; simp [flat] at hs
          | lent m => cases hd; simp [flat] at hs
        · split at h
          · rename_i hs
            rw [Bool.and_eq_true] at hs
            cases h
            obtain ⟨p, xs, rfl, r, hx, _⟩ := iv.tup sub hl
            refine .inr (.inr (.inr ⟨d, l, iu.look sub hd, .tup (.inl r) (dps_lib _ (dps_mono sub _ hx)), shp_shaped hs.1, shp_shaped hs.2, k _ ?_⟩))
            rw [any_deq]
          · cases h
      · split at h
        · rename_i c z _ _
          split at h
          · rename_i ch hc
            cases h
            cases u with
            | dat d' =>
              cases hd
              have e1 := dp_str iu
              have e2 := dp_str iv
              refine .inr (.inr (.inl ⟨ch, z, ?_, e2, k _ rfl⟩))
              rw [e1]
              congr 1
              cases c with
              | mk cps =>
                congr 1
                have hc' : cps.toList = [ch] := hc
                exact Array.ext' (by rw [hc'])
            | tok n => cases hd
            | own m => cases hd
            | lent m => cases hd
          · cases h
        · cases h
theorem sr_in : SoundR c (rInA K) oIn := by
  intro a g F H x y u v w Q sub t iu iv h k
  unfold oIn at h
  cases hh : hasIn u v with
  | none => rw [hh] at h; cases h
  | some b =>
    rw [hh] at h
    cases h
    exact sr_in_core sub iu iv hh Q fun z e => by subst e; exact k F H _ (PExt.refl sub) (.bl _) True.intro
theorem in_not {x y : V} {Q : VK} (h : rInA K x y H fun v H' => ∃ b, v = .bl b ∧ Q (.bl !b) H') : rNotInA K x y H Q := by
  rcases h with ⟨d, ds, h1, h2, h3, h4, b, e, q⟩ | ⟨p, xs, h1, h2, h3, h4, b, e, q⟩ | ⟨ch, z, h1, h2, b, e, q⟩ | ⟨d, ds, h1, h2, h3, h4, b, e, q⟩
  · cases e; exact .inl ⟨d, ds, h1, h2, h3, h4, q⟩
  · refine .inr (.inl ⟨p, xs, h1, h2, h3, h4, ?_⟩)
    have e' : V.bl (inV x xs) = V.bl b := e
    cases e'
    exact q
  · cases e; exact .inr (.inr (.inl ⟨ch, z, h1, h2, q⟩))
  · cases e; exact .inr (.inr (.inr ⟨d, ds, h1, h2, h3, h4, q⟩))
theorem sr_notIn : SoundR c (rNotInA K) oNotIn := by
  intro a g F H x y u v w Q sub t iu iv h k
  unfold oNotIn at h
  cases hh : hasIn u v with
  | none => rw [hh] at h; cases h
  | some b =>
    rw [hh] at h
    cases h
    exact in_not (sr_in_core sub iu iv hh _ fun z e => by subst e; exact ⟨b, rfl, k F H _ (PExt.refl sub) (.bl _) True.intro⟩)

/-! ### subscripts -/
theorem atI_lib {F : Hp} {xs : List V} {l : List PyData} {i : Int} {d : PyData} (hd : DpAll K F xs l) (h : CW.atI l i = some d) : ∃ v, L2.atI xs i = some v ∧ Dp K F v d := by
  unfold CW.atI at h
  rw [atN_eq] at h
  unfold L2.atI
  rw [dps_len hd]
  cases hj : ixN l.length i with
  | none => rw [hj] at h; cases h
  | some j =>
    rw [hj] at h
    obtain ⟨v, h1, h2⟩ := dps_at (i := j) hd h
    exact ⟨v, h1, h2⟩
theorem sr_ix : SoundR c (rIx K) oIx := by
  intro a g F H x y u v w Q sub t iu iv h k
  unfold oIx at h
  split at h
  · rename_i z i
    split at h
    · rename_i hc
      cases hz : z.cps.toList[i.toNat]? with
      | none => rw [hz] at h; cases h
      | some ch =>
        rw [hz] at h
        cases h
        have e1 := dp_str iu
        have e2 := dp_int iv
        refine .inr (.inr ⟨z, i, ch, e1, e2, line_of hc.2, ?_, k F H _ (PExt.refl sub) (.str _) True.intro⟩)
        have ei : i = ((i.toNat : Nat) : Int) := by omega
        rw [ei]
        exact atI_nat hz
    · cases h
  · rename_i u' i _
    split at h
    · rename_i l hl
      cases hd : CW.atI l i with
      | none => rw [hd] at h; cases h
      | some d =>
        rw [hd] at h
        cases h
        obtain ⟨p, xs, rfl, hx, hk⟩ := iu.seq sub hl
        obtain ⟨z, h1, h2⟩ := atI_lib hx hd
        rcases hk with ⟨_, hk⟩ | ⟨_, hk, _⟩
        · exact .inl ⟨p, xs, i, z, rfl, dp_int iv, .inl hk, h1, k F H _ (PExt.refl sub) h2 True.intro⟩
        · exact .inr (.inl ⟨p, xs, i, z, rfl, dp_int iv, .inl hk, h1, k F H _ (PExt.refl sub) h2 True.intro⟩)
    · cases h
  · cases h

/-! ### slices -/
def SoundO (c : Ctx K) (t : TO) (m : MO c.W.G) : Prop := ∀ a0 F0 H0 a g F H s r Q, Rep c.W a0 F0 H0 a g F H s r →
  (match m r g with
    | .ok o g' => ∀ a' F' H', Ext c.W a F H a' F' H' → c.W.at_ a' g' F' H' → Q o H'
    | .er e g' => ∀ a' F' H' C d, Ext c.W a F H a' F' H' → c.W.at_ a' g' F' H' → ErrAt c.mg e C d H' → c.Wx C d s H'
    | .no => False) → t s H Q
theorem so_noPart : SoundO c tNoPart sNoPart := fun _ _ _ a _ F H _ _ _ rp post => post a F H (Ext.refl rp.sub) rp.at_
theorem so_part {t : TE} {m : ME c.W.G} (h : SoundE c t m) : SoundO c (tPart t) (sPart m) := by
  intro a0 F0 H0 a g F H s r Q rp post
  refine h _ _ _ _ _ _ _ _ _ _ rp ?_
  unfold sPart at post
  cases hm : m r g with
  | no => rw [hm] at post; exact post
  | er e g1 => rw [hm] at post; exact post
  | ok u g1 =>
    rw [hm] at post
    simp only [R.bind_ok] at post
    intro a1 F1 H1 x e1 t1 i1 n1
    cases u with
    | dat d =>
      cases d with
      | int i => exact ⟨i, dp_int i1, post a1 F1 H1 e1 t1⟩
      | _ => exact post.elim
    | _ => exact post.elim
def SoundSl (c : Ctx K) (r : V → Option Int → Option Int → Hp → VK → Prop) (f : Vl → Option Int → Option Int → Option Vl) : Prop := ∀ (a : c.W.A) (g : c.W.G) (F H : Hp) (x : V) (u w : Vl) (lo hi : Option Int) (Q : VK), (∀ b o, F b = some o → H b = some o) → c.W.at_ a g F H → IsV c.W a F H x u → f u lo hi = some w →
  (∀ F' H' z, PExt F H F' H' → IsV c.W a F' H' z w → IsN H z w → Q z H') → r x lo hi H Q
theorem so_sl {rr : V → Option Int → Option Int → Hp → VK → Prop} {f : Vl → Option Int → Option Int → Option Vl} {te : TE} {tl th : TO} {me : ME c.W.G} {ml mh : MO c.W.G} (hr : SoundSl c rr f) (he : SoundE c te me) (hl : SoundO c tl ml) (hh : SoundO c th mh) : SoundE c (tSl rr te tl th) (sSl f me ml mh) := by
  intro a0 F0 H0 a g F H s r Q rp post
  refine he _ _ _ _ _ _ _ _ _ _ rp ?_
  unfold sSl at post
  cases hm : me r g with
  | no => rw [hm] at post; exact post
  | er e g1 => rw [hm] at post; exact post
  | ok u g1 =>
    rw [hm] at post
    simp only [R.bind_ok] at post
    intro a1 F1 H1 x e1 t1 i1 n1
    refine hl _ _ _ _ _ _ _ _ _ _ (rp.step e1 t1) ?_
    cases hm2 : ml r g1 with
    | no => rw [hm2] at post; exact post
    | er e g2 => rw [hm2] at post; exact fun a' F' H' C d e' t i => post a' F' H' C d (e1.trans e') t i
    | ok lo g2 =>
      rw [hm2] at post
      simp only [R.bind_ok] at post
      intro a2 F2 H2 e2 t2
      have e12 := e1.trans e2
      refine hh _ _ _ _ _ _ _ _ _ _ (rp.step e12 t2) ?_
      cases hm3 : mh r g2 with
      | no => rw [hm3] at post; exact post
      | er e g3 => rw [hm3] at post; exact fun a' F' H' C d e' t i => post a' F' H' C d (e12.trans e') t i
      | ok hi g3 =>
        rw [hm3] at post
        simp only [R.bind_ok] at post
        intro a3 F3 H3 e3 t3
        cases hf : f u lo hi with
        | none => rw [hf] at post; exact post.elim
        | some w =>
          rw [hf] at post
          refine hr a3 g3 F3 H3 x u w lo hi Q e3.fh t3 (i1.step (e2.trans e3)) hf fun F4 H4 z e4 i4 n4 => ?_
          exact post a3 F4 H4 z ((e12.trans e3).trans (Ext.of e3.fh e4)) (at_of t3 e4) i4 (n4.back (e12.trans e3).al)
theorem cutAt_lib (n d : Nat) (o : Option Int) : cutAt n d o = HT.sIx n d o := by cases o <;> rfl
theorem cut_lib {F : Hp} {xs : List V} {l : List PyData} (h : DpAll K F xs l) (lo hi : Option Int) : DpAll K F (cutV xs lo hi) (cutL l lo hi) := by
  unfold cutV cutL
  rw [dps_len h, cutAt_lib, cutAt_lib]
  exact dps_take _ (dps_drop _ h)
def rSlAny (K : FR) : V → Option Int → Option Int → Hp → VK → Prop := fun x lo hi H Q => (rSlL K x lo hi H Q ∨ rSlA K x lo hi H Q) ∨ rSlS x lo hi H Q
theorem sl_any {X : Cx} : SlR X (rSlAny X.K) := (sl_list.or sl_tupA).or sl_str
theorem cut_whole {l : List PyData} {lo hi : Option Int} (h1 : cutAt l.length 0 lo = 0) (h2 : cutAt l.length l.length hi = l.length) : cutL l lo hi = l := by
  unfold cutL
  rw [h1, h2]
  simp
theorem ssl_any : SoundSl c (rSlAny K) oSl := by
  intro a g F H x u w lo hi Q sub t iu h k
  unfold oSl at h
  split at h
  · rename_i z
    split at h
    · rename_i hl
      cases h
      refine .inr ⟨z, dp_str iu, line_of hl, ?_⟩
      have e : cutS z lo hi = ⟨(cutL z.cps.toList lo hi).toArray⟩ := by
        unfold cutS cutL
        rw [cutAt_lib, cutAt_lib, Array.length_toList]
        rfl
      rw [e]
      exact k F H _ (PExt.refl sub) (.str _) True.intro
    · cases h
  · rename_i l
    cases h
    obtain ⟨p, xs, rfl, r, hx, f⟩ := IsV.tup sub iu (show (Vl.dat (.tuple l)).tup? = some l from rfl)
    refine .inl (.inr ⟨p, xs, rfl, .inl r, fun z => ?_, fun z q hq => tup_new sub (cut_lib hx lo hi) hq k⟩)
    rw [dps_len hx, ← cutAt_lib, ← cutAt_lib] at z
    rw [cut_whole z.1 z.2] at k
    exact k F H _ (PExt.refl sub) iu True.intro
  · split at h
    · rename_i l hl
      cases h
      obtain ⟨p, xs, rfl, r, hx⟩ := iu.lst sub hl
      exact .inl (.inl ⟨p, xs, rfl, .inl r, fun q hq => own_new sub t (cut_lib hx lo hi) hq k⟩)
    · cases h

/-! ### built-ins -/
theorem sb_len : SoundB c (fun xs H Q => ∃ x n, xs = [x] ∧ LenV K x H n ∧ Q (.int n) H) bLen := by
  intro a g F H Hs xs vs w Q sub t i h k
  unfold bLen at h
  split at h
  · rename_i z
    split at h
    · rename_i hl
      cases h
      cases i with
      | cons iv n d t2 =>
        cases t2
        have e := dp_str iv
        subst e
        exact ⟨_, z.length, rfl, ⟨line_of hl, rfl⟩, k F H _ (PExt.refl sub) (.int _) True.intro⟩
    · cases h
  · rename_i x _
    split at h
    · rename_i l hl
      cases h
      cases i with
      | cons iv n d t2 =>
        cases t2
        obtain ⟨p, xs, rfl, hx, hk⟩ := iv.seq sub hl
        have e := dps_len hx
        refine ⟨_, xs.length, rfl, ?_, ?_⟩
        · rcases hk with ⟨_, hk⟩ | ⟨_, hk, _⟩
          · exact .inl ⟨xs, .inl hk, rfl⟩
          · exact .inr ⟨xs, .inl hk, rfl⟩
        · rw [e]
          exact k F H _ (PExt.refl sub) (.int _) True.intro
    · cases h
  · cases h
theorem sb_min : SoundB c (fun xs H Q => ∃ i j, xs = [.int i, .int j] ∧ Q (.int (if j < i then j else i)) H) bMin := by
  intro a g F H Hs xs vs w Q sub t i h k
  unfold bMin at h
  split at h
  · cases h
    cases i with
    | cons iv n d t2 =>
      cases t2 with
      | cons iv2 n2 d2 t3 =>
        cases t3
        have e := dp_int iv
        have e2 := dp_int iv2
        subst e e2
        exact ⟨_, _, rfl, k F H _ (PExt.refl sub) (.int _) True.intro⟩
  · cases h
theorem sb_max : SoundB c (fun xs H Q => ∃ i j, xs = [.int i, .int j] ∧ Q (.int (if j > i then j else i)) H) bMax := by
  intro a g F H Hs xs vs w Q sub t i h k
  unfold bMax at h
  split at h
  · cases h
    cases i with
    | cons iv n d t2 =>
      cases t2 with
      | cons iv2 n2 d2 t3 =>
        cases t3
        have e := dp_int iv
        have e2 := dp_int iv2
        subst e e2
        exact ⟨_, _, rfl, k F H _ (PExt.refl sub) (.int _) True.intro⟩
  · cases h
theorem sb_int : SoundB c (fun xs H Q => (∃ i, xs = [.int i] ∧ Q (.int i) H) ∨ ∃ k, xs = [.bl k] ∧ Q (.int (if k then 1 else 0)) H) bInt := by
  intro a g F H Hs xs vs w Q sub t i h k
  unfold bInt at h
  split at h
  · cases h
    cases i with
    | cons iv n d t2 =>
      cases t2
      have e := dp_int iv
      subst e
      exact .inl ⟨_, rfl, k F H _ (PExt.refl sub) (.int _) True.intro⟩
  · cases h
    cases i with
    | cons iv n d t2 =>
      cases t2
      have e := dp_bool iv
      subst e
      exact .inr ⟨_, rfl, k F H _ (PExt.refl sub) (.int _) True.intro⟩
  · cases h
theorem sb_tuple : SoundB c (fun xs H Q => ∃ p ys, xs = [.ref p] ∧ ((SqL K H p ys ∧ ∀ l, H l = none → Q (.ref l) (upd H l (.tup ys))) ∨ (SqT K H p ys ∧ Q (.ref p) H))) bTuple := by
  intro a g F H Hs xs vs w Q sub t i h k
  unfold bTuple at h
  split at h
  · split at h
    · rename_i x l hl
      cases h
      cases i with
      | cons iv n d t2 =>
        cases t2
        obtain ⟨p, xs, rfl, hx, hk⟩ := iv.seq sub hl
        refine ⟨p, xs, rfl, ?_⟩
        rcases hk with ⟨_, hk⟩ | ⟨_, hk, hf⟩
        · exact .inl ⟨.inl hk, fun q hq => tup_new sub hx hq k⟩
        · exact .inr ⟨.inl hk, k F H _ (PExt.refl sub) (Dp.tup hf hx) True.intro⟩
    · cases h
  · cases h
theorem sb_list : SoundB c (fun xs H Q => ∃ p ys, xs = [.ref p] ∧ (SqL K H p ys ∨ SqT K H p ys) ∧ ∀ l, H l = none → Q (.ref l) (upd H l (.lst ys))) bList := by
  intro a g F H Hs xs vs w Q sub t i h k
  unfold bList at h
  split at h
  · split at h
    · rename_i x l hl
      cases h
      cases i with
      | cons iv n d t2 =>
        cases t2
        obtain ⟨p, xs, rfl, hx, hk⟩ := iv.seq sub hl
        refine ⟨p, xs, rfl, ?_, fun q hq => own_new sub t hx hq k⟩
        rcases hk with ⟨_, hk⟩ | ⟨_, hk, hf⟩
        · exact .inl (.inl hk)
        · exact .inr (.inl hk)
    · cases h
  · cases h
theorem intsOf_dps : ∀ {l : List PyData} {ns : List Int} {xs : List V}, intsOf l = some ns → DpAll K F xs l → xs = ns.map V.int
  | [], ns, xs, h, hd => by cases h; cases hd; rfl
  | .int i :: ds, ns, xs, h, hd => by
    unfold intsOf at h
    cases h1 : intsOf ds with
    | none => rw [h1] at h; cases h
    | some ms =>
      rw [h1] at h
      cases h
      cases hd with
      | cons h2 h3 => rw [dp_int h2, intsOf_dps h1 h3]; rfl
  | .none :: ds, ns, xs, h, hd => by simp [intsOf] at h
  | .bool _ :: ds, ns, xs, h, hd => by simp [intsOf] at h
  | .str _ :: ds, ns, xs, h, hd => by simp [intsOf] at h
  | .list _ :: ds, ns, xs, h, hd => by simp [intsOf] at h
  | .tuple _ :: ds, ns, xs, h, hd => by simp [intsOf] at h
  | .dict _ :: ds, ns, xs, h, hd => by simp [intsOf] at h
end
end CW
/-! CwDice: defs that are handed a thing of the world; the dice. -/
namespace CW
open PySem L2
section
variable {K : FR} {c : Ctx K} {a0 a a1 : c.W.A} {g g1 : c.W.G} {F0 H0 F H F1 H1 : Hp}
/-- a def that is handed the n0-th thing of the world, then data -/
def spT {K : FR} (W : Wld K) (mg : Str → Option Value) (n0 n : Nat) (f : List PyData → W.G → R Vl W.G) : Sp := fun vs H Q E => vs.length = n ∧ ∃ (al : W.A) (g : W.G) (F : Hp) (p : Addr) (ws : List V) (ds : List PyData),
  vs = .ref p :: ws ∧ W.tok al n0 = some p ∧ (∀ b o, F b = some o → H b = some o) ∧ W.at_ al g F H ∧ DpAll K F ws ds ∧
  match f ds g with
    | .ok v g' => ∀ a' F' H' x, Ext W al F H a' F' H' → W.at_ a' g' F' H' → IsV W a' F' H' x v → IsN H x v → Q x H'
    | .er e g' => ∀ a' F' H' C d, Ext W al F H a' F' H' → W.at_ a' g' F' H' → ErrAt mg e C d H' → E C d H'
    | .no => False
theorem so_callT {mg : Str → Option Value} {n0 n : Nat} {f : List PyData → c.W.G → R Vl c.W.G} {ta : TA} {ma : MA c.W.G} (hmg : c.mg = mg) (hn : ∀ ds g, ds.length + 1 ≠ n → f ds g = .no) (ha : SoundA c ta ma) :
    SoundE c (tCallSD (spT c.W mg n0 n f) [] (fun s => WE c.Wx s) ta) (sCallT n0 f ma) := by
  subst hmg
  intro a0 F0 H0 a g F H s r Q rp post
  refine ha _ _ _ _ _ _ _ _ _ _ rp ?_
  unfold sCallT at post
  cases h : ma r g with
  | no => rw [h] at post; exact post
  | er e g1 => rw [h] at post; exact post
  | ok vs g1 =>
    rw [h] at post
    simp only [R.bind_ok] at post
    intro a1 F1 H1 xs e1 t1 i1
    cases i1 with
    | nil => exact post.elim
    | cons iv nv dv tv =>
      rename_i x xs v vs
      cases v with
      | tok k =>
        simp only at post
        by_cases hk : k = n0
        · subst hk
          rw [if_pos rfl] at post
          obtain ⟨p, hp, rfl⟩ := iv
          cases h2 : frzAll vs with
          | none => rw [h2] at post; exact post.elim
          | some ds =>
            rw [h2] at post
            simp only at post
            have hd := frz_dps tv h2
            have e2 := letGo_ext e1
            have t2 := letGo_at e1 t1
            refine ⟨?_, a1, g1, _, p, xs, ds, by rw [List.append_nil], hp, e2.fh, t2, hd, ?_⟩
            · rw [List.append_nil, List.length_cons, dps_len hd]
              refine Classical.byContradiction fun z => ?_
              rw [hn ds g1 z] at post
              exact post
            · cases hf : f ds g1 with
              | no => rw [hf] at post; exact post.elim
              | er e g2 =>
                rw [hf] at post
                exact fun a' F' H' C d e3 t3 i => post a' F' H' C d (e2.trans e3) t3 i
              | ok v g2 =>
                rw [hf] at post
                exact fun a' F' H' x e3 t3 i n3 => post a' F' H' x (e2.trans e3) t3 i (n3.back e2.al)
        · rw [if_neg hk] at post; exact post.elim
      | _ => exact post.elim
end
theorem runT_no {G : Type} {n0 k n : Nat} {m : MS G} (ds : List PyData) (g : G) (h : ds.length + 1 ≠ k + 1) : runT n0 k n m ds g = .no := by
  unfold runT
  rw [if_neg (by omega)]
section
variable {K : FR} {W : Wld K} {mg : Str → Option Value}
theorem bodyT_ok {Wx : WX} {E : XK} (hW : ∀ C d s H, E C d H → Wx C d s H) {N : List Str} {n0 k : Nat} {t : TS} {m : MS W.G} (h : SoundS (⟨W, mg, Wx⟩ : Ctx K) t m) {vs : List V} {H : Hp} {Q : VK} (sp : spT W mg n0 (k + 1) (runT n0 k N.length m) vs H Q E) :
    t { nx := fun _ H' => Q .non H', rt := Q } (L2.start N vs) H := by
  obtain ⟨hl, al, g, F, p, ws, ds, rfl, hp, sub, ht, hd, post⟩ := sp
  have hn : ds.length = ws.length := (dps_len hd).symm
  have hk : ds.length = k := by simp at hl; omega
  unfold runT at post
  rw [if_pos hk] at post
  have get : ∀ (i : Nat) (v : Vl), (envOfT n0 N.length ds)[i]? = some (some v) → ∃ x, (L2.start N (.ref p :: ws))[i]? = some (some x) ∧ IsV W al F H x v ∧ (∀ l, v ≠ .own l) ∧ (∀ l, v ≠ .lent l) := by
    intro i v hi
    unfold envOfT at hi
    unfold L2.start
    cases i with
    | zero =>
      simp at hi
      subst hi
      exact ⟨.ref p, by simp, (show ∃ q, W.tok al n0 = some q ∧ V.ref p = V.ref q from ⟨p, hp, rfl⟩), (fun l e => nomatch e), (fun l e => nomatch e)⟩
    | succ i =>
      have hi' : (ds.map (fun d => some (Vl.dat d)) ++ List.replicate (N.length - (ds.length + 1)) none)[i]? = some (some v) := by simpa using hi
      obtain ⟨x, d, rfl, h3, h4⟩ := envOf_get hd _ i v hi'
      refine ⟨x, ?_, h4, (fun l e => nomatch e), (fun l e => nomatch e)⟩
      simp only [List.map_cons, List.cons_append, List.getElem?_cons_succ, List.length_cons]
      rw [← hn]
      exact h3
  have rp : Rep W al F H al g F H (L2.start N (.ref p :: ws)) (envOfT n0 N.length ds) := by
    refine ⟨Ext.refl sub, ht, ?_, fun i v hi => ?_, fun i l hi => ?_, fun i l q hi => ?_⟩
    · unfold L2.start envOfT
      simp [hn]
    · obtain ⟨x, h1, h2, _⟩ := get i v hi
      exact ⟨x, h1, h2⟩
    · obtain ⟨x, h1, h2, h3, h4⟩ := get i _ hi
      exact h4 l rfl
    · obtain ⟨x, h1, h2, h3, h4⟩ := get i _ hi
      exact absurd rfl (h3 l)
  refine h _ _ _ _ _ _ _ _ _ _ rp ?_
  cases hm : m (envOfT n0 N.length ds) g with
  | no => rw [hm] at post; exact post.elim
  | bk r g => rw [hm] at post; exact post.elim
  | ct r g => rw [hm] at post; exact post.elim
  | nx r g =>
    rw [hm] at post
    exact fun a' F' H' s' rp' _ => post a' F' H' .non rp'.ext rp'.at_ .non True.intro
  | er e r g =>
    rw [hm] at post
    exact fun a' F' H' s' C d rp' i => hW C d s' H' (post a' F' H' C d rp'.ext rp'.at_ i)
  | rt v g =>
    rw [hm] at post
    intro a' F' H' x e t i n
    cases v with
    | dat d => exact post a' F' H' x e t i n
    | own l => exact post a' F' H' x e t i n
    | tok k => exact post a' F' H' x e t i n
    | lent l => exact post.elim

/-! ### the dice -/
/-- the script at the first address, the dice (once they are made) at the second -/
@[reducible] def WD (K : FR) : Wld K where
  G := DG
  A := Addr × Option Addr
  tok := fun al n => match n with
    | 0 => some al.1
    | 1 => al.2
    | _ => none
  reg := fun al b => al.2 = some b
  at_ := fun al g F H => SqL K F al.1 (g.ns.map V.int) ∧ g.ns.length ≤ 100 ∧ match al.2, g.d with
    | none, none => True
    | some z, some (p, m, h) => F z = none ∧ H z = some (.lst [.ref al.1, .int p, .int m, .int h])
    | _, _ => False
  keep := fun {a g F H F' H'} h ff hr => by
    obtain ⟨h1, h2, h3⟩ := h
    refine ⟨sql_mono ff h1, h2, ?_⟩
    cases ha : a.2 with
    | none =>
      rw [ha] at h3
      cases hg : g.d with
      | none => trivial
      | some d => rw [hg] at h3; exact h3
    | some z =>
      rw [ha] at h3
      cases hg : g.d with
      | none => rw [hg] at h3; exact h3
      | some d =>
        obtain ⟨p, m, h⟩ := d
        rw [hg] at h3
        obtain ⟨q1, q2⟩ := hr z ha
        exact ⟨q1, q2.trans h3.2⟩
  off := fun {a g F H b} h r => by
    obtain ⟨h1, h2, h3⟩ := h
    have r' : a.2 = some b := r
    rw [r'] at h3
    cases hg : g.d with
    | none => rw [hg] at h3; exact h3.elim
    | some d =>
      obtain ⟨p, m, h⟩ := d
      rw [hg] at h3
      exact ⟨h3.1, by rw [h3.2]; simp⟩
end
section
variable {K : FR} {mg : Str → Option Value} {Wx : WX}
abbrev cD (K : FR) (mg : Str → Option Value) (Wx : WX) : Ctx K := ⟨WD K, mg, Wx⟩
theorem dice_at {al : Addr × Option Addr} {g : DG} {F H : Hp} {z : Addr} (h : (WD K).at_ al g F H) (e : al.2 = some z) : ∃ p m h', g.d = some (p, m, h') ∧ F z = none ∧ H z = some (.lst [.ref al.1, .int p, .int m, .int h']) := by
  obtain ⟨h1, h2, h3⟩ := h
  rw [e] at h3
  cases hg : g.d with
  | none => rw [hg] at h3; exact h3.elim
  | some d =>
    obtain ⟨p, m, h⟩ := d
    rw [hg] at h3
    exact ⟨p, m, h, rfl, h3.1, h3.2⟩
theorem so_dIx (i k : Nat) : SoundE (cD K mg Wx) (tOp (rIx K) (tVar i) (tC (.int (k : Int)))) (sDIx i k) := by
  intro a0 F0 H0 a g F H s r Q rp post
  unfold sDIx at post
  split at post
  · rename_i h
    obtain ⟨x, h1, p0, h2, rfl⟩ := rp.slot i _ h
    have h2' : a.2 = some p0 := h2
    obtain ⟨p, m, h', hg, fz, hz⟩ := dice_at rp.at_ h2'
    rw [hg] at post
    refine ⟨.ref p0, h1, .inl ?_⟩
    have go : ∀ (v : V), ([V.ref a.1, .int p, .int m, .int h'] : List V)[k]? = some v → Q v H → rIxL K (.ref p0) (.int (k : Int)) H Q := fun v hv q => ⟨p0, _, (k : Int), v, rfl, rfl, SqL.of hz, atI_nat hv, q⟩
    match k, post with
    | 0, post => exact go _ rfl (post a F H _ (Ext.refl rp.sub) rp.at_ ⟨a.1, rfl, rfl⟩ True.intro)
    | 1, post => exact go _ rfl (post a F H _ (Ext.refl rp.sub) rp.at_ (.int _) True.intro)
    | 2, post => exact go _ rfl (post a F H _ (Ext.refl rp.sub) rp.at_ (.int _) True.intro)
    | 3, post => exact go _ rfl (post a F H _ (Ext.refl rp.sub) rp.at_ (.int _) True.intro)
    | k + 4, post => exact post.elim
  · exact post.elim
theorem so_dLen {t : TE} {m : ME DG} (h : SoundE (cD K mg Wx) t m) : SoundE (cD K mg Wx) (tCB (fun xs H Q => ∃ x n, xs = [x] ∧ LenV K x H n ∧ Q (.int n) H) (tCons t tNil)) (sDLen m) := by
  intro a0 F0 H0 a g F H s r Q rp post
  refine h _ _ _ _ _ _ _ _ _ _ rp ?_
  unfold sDLen at post
  cases hm : m r g with
  | no => rw [hm] at post; exact post
  | er e g1 => rw [hm] at post; exact post
  | ok u g1 =>
    rw [hm] at post
    simp only [R.bind_ok] at post
    intro a1 F1 H1 x e1 t1 i1 n1
    split at post
    · obtain ⟨p0, h2, rfl⟩ := i1
      have h2' : a1.1 = p0 := Option.some.inj h2
      have q := t1.1
      rw [h2'] at q
      refine ⟨_, g1.ns.length, rfl, .inl ⟨_, sql_mono e1.fh q, by simp⟩, post a1 F1 H1 _ e1 t1 (.int _) True.intro⟩
    · exact post.elim
theorem so_dAt {t u : TE} {m n : ME DG} (h : SoundE (cD K mg Wx) t m) (h' : SoundE (cD K mg Wx) u n) : SoundE (cD K mg Wx) (tOp (rIx K) t u) (sDAt m n) := by
  intro a0 F0 H0 a g F H s r Q rp post
  refine h _ _ _ _ _ _ _ _ _ _ rp ?_
  unfold sDAt at post
  cases hm : m r g with
  | no => rw [hm] at post; exact post
  | er e g1 => rw [hm] at post; exact post
  | ok u g1 =>
    rw [hm] at post
    simp only [R.bind_ok] at post
    intro a1 F1 H1 x e1 t1 i1 n1
    refine h' _ _ _ _ _ _ _ _ _ _ (rp.step e1 t1) ?_
    cases hm2 : n r g1 with
    | no => rw [hm2] at post; exact post
    | er e g2 => rw [hm2] at post; exact PostE.from (c := cD K mg Wx) (x := .er e g2) e1 post
    | ok v g2 =>
      rw [hm2] at post
      simp only [R.bind_ok] at post
      intro a2 F2 H2 y e2 t2 i2 n2
      split at post
      · rename_i j
        split at post
        · rename_i hj
          split at post
          · rename_i z hz
            obtain ⟨p0, h2, rfl⟩ := IsV.step i1 e2
            have h2' : a2.1 = p0 := Option.some.inj h2
            have q := t2.1
            rw [h2'] at q
            have ej := dp_int i2
            subst ej
            refine .inl ⟨p0, _, j, .int z, rfl, rfl, sql_mono e2.fh q, ?_, post a2 F2 H2 _ (e1.trans e2) t2 (.int _) True.intro⟩
            have e : j = ((j.toNat : Nat) : Int) := by omega
            rw [e]
            refine atI_nat ?_
            rw [List.getElem?_map, hz]
            rfl
          · exact post.elim
        · exact post.elim
      · exact post.elim
theorem ss_dSet {i k : Nat} {te : TE} {me : ME DG} (he : SoundE (cD K mg Wx) te me) : SoundS (cD K mg Wx) (tAsg te (gSub (tVar i) (tC (.int (k : Int))) rSetL)) (sDSet i k me) := by
  intro a0 F0 H0 a g F H s r D rp post
  unfold sDSet at post
  refine he _ _ _ _ _ _ _ _ _ _ rp (so_out (c := cD K mg Wx) (o := .no) rp post fun v g' a' F' H' y hx e rp' iv n po => ?_)
  split at po
  · rename_i h
    obtain ⟨x, h1, p0, h2, rfl⟩ := rp'.slot i _ h
    have h2' : a'.2 = some p0 := h2
    obtain ⟨p, m, h', hg, fz, hz⟩ := dice_at rp'.at_ h2'
    rw [hg] at po
    split at po
    · rename_i n' p' m' h'' he'
      cases he'
      have ey := dp_int iv
      subst ey
      refine ⟨.ref p0, h1, p0, _, (k : Int), k, rfl, rfl, hz, ?_, ?_⟩
      · unfold ixN
        match k, po with
        | 1, po => rfl
        | 2, po => rfl
        | 3, po => rfl
        | 0, po => exact po.elim
        | k + 4, po => exact po.elim
      · have ext2 : ∀ o, Ext (WD K) a' F' H' a' F' (upd H' p0 o) := fun o => by
          refine ⟨fun _ _ z => z, fun b u z => ?_, fun b z f nr => ?_, fun b z f nr => f, fun b z => ?_, fun _ _ z => z⟩
          · have ne : b ≠ p0 := fun q => by subst q; rw [fz] at z; cases z
            rw [upd_ne ne]
            exact rp'.sub b u z
          · have ne : b ≠ p0 := fun q => by subst q; exact nr h2'
            exact ⟨f, upd_ne ne, nr⟩
          · by_cases q : b = p0
            · subst q; rw [upd_same]; simp
            · rw [upd_ne q]; exact z
        have at2 : ∀ (q : Int × Int × Int), (WD K).at_ a' { g' with d := some q } F' (upd H' p0 (.lst [.ref a'.1, .int q.1, .int q.2.1, .int q.2.2])) := fun q => by
          refine ⟨rp'.at_.1, rp'.at_.2.1, ?_⟩
          rw [h2']
          exact ⟨fz, upd_same⟩
        match k, po with
        | 1, po => exact po a' F' _ s (rp'.step (ext2 _) (at2 (n', m, h'))) fun _ _ z => z
        | 2, po => exact po a' F' _ s (rp'.step (ext2 _) (at2 (p, n', h'))) fun _ _ z => z
        | 3, po => exact po a' F' _ s (rp'.step (ext2 _) (at2 (p, m, n'))) fun _ _ z => z
        | 0, po => exact po.elim
        | k + 4, po => exact po.elim
    · exact po.elim
  · exact po.elim
theorem si_dScr (i : Nat) : SoundI (cD K mg Wx) (iAny K (tVar i)) (iDScr i) := by
  intro a0 F0 H0 a g F H s r Rk rp post
  unfold iDScr at post
  split at post
  · rename_i h
    obtain ⟨x, h1, p0, h2, rfl⟩ := rp.slot i _ h
    have h2' : a.1 = p0 := Option.some.inj h2
    have q := rp.at_.1
    rw [h2'] at q
    refine ⟨.ref p0, h1, .inl ⟨p0, rfl, ⟨_, sql_mono rp.sub q⟩, post a F H _ (Ext.refl rp.sub) rp.at_ (wk_list q ?_)⟩⟩
    exact go g.ns
  · exact post.elim
where go {F : Hp} : ∀ ns : List Int, DpAll K F (ns.map V.int) (ns.map fun n => PyData.int n)
  | [] => .nil
  | n :: ns => .cons (.int n) (go ns)
theorem ss_retDice {i : Nat} {ta tb tc : TE} {ma mb mc : ME DG} (ha : SoundE (cD K mg Wx) ta ma) (hb : SoundE (cD K mg Wx) tb mb) (hc : SoundE (cD K mg Wx) tc mc) :
    SoundS (cD K mg Wx) (tRet (tLst (tCons (tVar i) (tCons ta (tCons tb (tCons tc tNil)))))) (sRetDice i ma mb mc) := by
  intro a0 F0 H0 a g F H s r D rp post
  unfold sRetDice at post
  split at post
  · rename_i h
    obtain ⟨x, h1, p0, h2, rfl⟩ := rp.slot i _ h
    have h2' : a.1 = p0 := Option.some.inj h2
    refine ⟨.ref p0, h1, ?_⟩
    refine ha _ _ _ _ _ _ _ _ _ _ rp (so_out (c := cD K mg Wx) (o := .no) rp post fun v1 g1 a1 F1 H1 y1 hx1 e1 rp1 i1 n1 po1 => ?_)
    refine hb _ _ _ _ _ _ _ _ _ _ rp1 (so_out (c := cD K mg Wx) (o := .no) rp1 po1 fun v2 g2 a2 F2 H2 y2 hx2 e2 rp2 i2 n2 po2 => ?_)
    refine hc _ _ _ _ _ _ _ _ _ _ rp2 (so_out (c := cD K mg Wx) (o := .no) rp2 po2 fun v3 g3 a3 F3 H3 y3 hx3 e3 rp3 i3 n3 po3 => ?_)
    split at po3
    · rename_i p m h' hd
      have q1 := dp_int i1
      have q2 := dp_int i2
      have q3 := dp_int i3
      subst q1 q2 q3
      have t3 : (WD K).at_ a3 g3 F3 H3 := rp3.at_
      obtain ⟨t31, t32, t33⟩ := t3
      have ha3 : a3.2 = none := by
        cases hq : a3.2 with
        | none => rfl
        | some z =>
          have t33' := t33
          rw [hq, hd] at t33'
          exact t33'.elim
      have h4 : a3.1 = p0 := by
        have := ((e1.trans e2).trans e3).tk 0 p0 h2
        exact Option.some.inj this
      refine ⟨by show 4 ≤ sizeLine; decide, fun z hz => ?_⟩
      have fz : F3 z = none := by
        cases q : F3 z with
        | none => rfl
        | some o => rw [rp3.sub z o q] at hz; cases hz
      have tkz : ∀ i b, (WD K).tok a3 i = some b → (WD K).tok (a3.1, some z) i = some b := fun i b hb => by
        match i, hb with
        | 0, hb => exact hb
        | 1, hb => rw [show (WD K).tok a3 1 = a3.2 from rfl, ha3] at hb; cases hb
        | i + 2, hb => cases hb
      have e4 : Ext (WD K) a3 F3 H3 (a3.1, some z) F3 (upd H3 z (.lst [.ref p0, .int p, .int m, .int h'])) := by
        refine ⟨fun _ _ q => q, fun b u q => ?_, fun b q f nr => ?_, fun b q f nr => f, fun b q => ?_, tkz⟩
        · have ne : b ≠ z := fun q' => by subst q'; rw [fz] at q; cases q
          rw [upd_ne ne]
          exact rp3.sub b u q
        · have ne : b ≠ z := fun q' => by subst q'; exact q hz
          exact ⟨f, upd_ne ne, fun q' => ne (Option.some.inj q').symm⟩
        · have ne : b ≠ z := fun q' => by subst q'; exact q hz
          rw [upd_ne ne]
          exact q
      exact po3 (a3.1, some z) F3 _ (.ref z) (rp3.ext.trans e4) ⟨t31, t32, fz, by rw [upd_same, h4]⟩ ⟨z, rfl, rfl⟩ True.intro
    · exact po3.elim
  · exact post.elim
end
end CW
/-! CwDef: a def that stands behind the top with its promise; its call. -/
namespace CW
open PySem PySem.Spec PyProof.Rows L2
/-- x is a def of the module that keeps sp; what isn't handed in is dvs -/
def Has (P : Program) (w : World) (K : FR) (mg : Str → Option Value) (base : Heap) (k : Nat) (x : Str) (ps : List Str) (dvs : List V) (sp : Sp) : Prop :=
  ∃ f fd ds, FnOk P w K mg base (L2.CX P w) k f fd ps sp ∧ mg x = some (.ref f) ∧ PySem.W.keepIn K (.ref f) = true ∧ Vals dvs ds ∧ Binds K fd ps ds
section
variable {X : Cx} {j k : Nat} {ps : List Str} {dvs : List V} {sp : Sp} {x : Str} {p pos : Pos} {e : Expr} {es : List Expr} {t : TA} {W : WX}
theorem pe_callH (h : Has X.prog X.w X.K X.mg X.base j x ps dvs sp) (hr : Room k X.A) (hj : j ≤ k) (tk : Takes X W) (hg : Gl X x)
    (ha : PA X (e :: es) t) (hdb : (x == ("__debug__" : Str)) = false := by decide) (he : starEach (e :: es) X.env = (false, eval e X.env) :: starEach es X.env := by rfl) (hpl : (backTo pos (starEach es X.env)).any (·.1) = false := by rfl) :
    PE X (.Call (.Name x p) (e :: es) [] pos) (tCallSD sp dvs (fun s => WE W s) t) := by
  obtain ⟨f, fd, ds, F, hm, hk, hd, hb⟩ := h
  exact pe_callSD F (hr.mono hj) hg hm hk hb hd (fun σ => passAt tk σ) ha hdb he hpl
end
theorem un65 {k : Nat} {A : Around} (r : Room k A) : A.units + 65 < cLine := by have := r.un; omega
section
variable {P : Program} {w : World} {K : FR} {mg : Str → Option Value} {base : Heap}
/-- a def that lets nothing out -/
theorem FunD.ok0 {x qual : Str} {params : Arguments} {body : List Stmt} {scope : Scope} {dvs : List V} {kws : List (Str × V)} {f : Addr} {fd : FuncData} {N ps : List Str} {k : Nat} {sp : Sp} (F : FunD K x qual params body scope dvs kws f fd) (S : FnScope N ps scope) (len : ∀ vs H Q E, sp vs H Q E → vs.length = ps.length)
    (hbody : ∀ (cdv : Value) (A : Around) (outer : List PySem.Env) (s : Shared) (H : Hp) (vs : List V) (Q : VK) (E : XK), Room k (A.deeper (envOfC qual scope s.heap.objs.size f cdv)) → sp vs H Q E →
      ∃ t, PSs (cxOf CX0 P w K mg base N qual scope f cdv A outer s H E).nox body t ∧ t { nx := fun _ H' => Q .non H', rt := Q } (L2.start N vs) H) : FnOk P w K mg base CX0 (k + 1) f fd ps sp :=
  FunD.ok F S len fun cdv A outer s H vs Q E hr h => let ⟨t, h1, h2⟩ := hbody cdv A outer s H vs Q E hr h; ⟨t, h1.nox, h2⟩
end
/-- the law's promise: a list of at most 63 ints is handed in, True comes out -/
def spLaw (K : FR) : Sp := fun vs H Q _ => ∃ (a : Addr) (ns : List Int), vs = [.ref a] ∧ SqL K H a (ns.map V.int) ∧ ns.length ≤ 63 ∧ ∀ H', Q (.bl true) H'
theorem spLaw_len {K : FR} {vs : List V} {H : Hp} {Q : VK} {E : XK} (h : spLaw K vs H Q E) : vs.length = 1 := by
  obtain ⟨a, ns, rfl, _⟩ := h
  rfl
theorem law_ok {K : FR} {mg : Str → Option Value} {N : List Str} {t : TS} {m : MS DG} (h : SoundS (cD K mg (fun _ _ _ _ => False)) t m) (tr : ∀ ns : List Int, ns.length ≤ 63 → ∃ g', runT 0 0 N.length m [] ⟨ns, none⟩ = .ok (.dat (.bool true)) g')
    {vs : List V} {H : Hp} {Q : VK} {E : XK} (sp : spLaw K vs H Q E) : t { nx := fun _ H' => Q .non H', rt := Q } (L2.start N vs) H := by
  obtain ⟨a, ns, rfl, hS, hl, k⟩ := sp
  obtain ⟨g', hg⟩ := tr ns hl
  refine bodyT_ok (W := WD K) (mg := mg) (E := fun _ _ _ => False) (n0 := 0) (k := 0) (fun _ _ _ _ z => z) h ⟨rfl, (a, none), ⟨ns, none⟩, H, a, [], [], rfl, rfl, fun _ _ z => z, ⟨hS, Nat.le_trans hl (by decide), True.intro⟩, .nil, ?_⟩
  rw [hg]
  intro a' F' H' x e t i n
  have e2 := dp_bool i
  subst e2
  exact k H'
end CW
/-! isinstance of data and one built-in type -/
namespace CW
open PySem L2
def tyNm : Nat → String
  | 0 => "tuple"
  | 1 => "list"
  | 2 => "bool"
  | 3 => "int"
  | _ => "str"
section
variable {K : FR} {c : Ctx K}
theorem isi_look {a : c.W.A} {F H : Hp} {x : V} {v : Vl} {d : PyData} (sub : ∀ b o, F b = some o → H b = some o) (i : IsV c.W a F H x v) (h : v.look = some d) {k : Nat} (hk : k ≤ 4) : ∃ t, TyX K H x t ∧ PySem.W.kitOne K t (.type (tyNm k)) = some (isiD k d) := by
  have five : ∀ {P : Nat → Prop}, P 0 → P 1 → P 2 → P 3 → P 4 → P k := fun {P} h0 h1 h2 h3 h4 => match k, hk with
    | 0, _ => h0
    | 1, _ => h1
    | 2, _ => h2
    | 3, _ => h3
    | 4, _ => h4
  have lst : ∀ l : List PyData, PySem.W.kitOne K (.type "list") (.type (tyNm k)) = some (isiD k (.list l)) := fun l => five (P := fun k => PySem.W.kitOne K (.type "list") (.type (tyNm k)) = some (isiD k (.list l))) rfl rfl rfl rfl rfl
  cases v with
  | tok n => cases h
  | own l =>
    cases h
    obtain ⟨p, xs, rfl, hp, _⟩ := i
    exact ⟨_, .base (.lst hp), lst l⟩
  | lent l =>
    cases h
    obtain ⟨p, xs, rfl, hp, _⟩ := i
    exact ⟨_, .base (.lst hp), lst l⟩
  | dat e =>
    cases h
    have i2 : Dp K F x _ := i
    cases i2 with
    | non => exact ⟨_, .base .non, five (P := fun k => PySem.W.kitOne K (.type "NoneType") (.type (tyNm k)) = some (isiD k .none)) rfl rfl rfl rfl rfl⟩
    | bl b => exact ⟨_, .base (.bl b), five (P := fun k => PySem.W.kitOne K (.type "bool") (.type (tyNm k)) = some (isiD k (.bool b))) rfl rfl rfl rfl rfl⟩
    | int b => exact ⟨_, .base (.int b), five (P := fun k => PySem.W.kitOne K (.type "int") (.type (tyNm k)) = some (isiD k (.int b))) rfl rfl rfl rfl rfl⟩
    | str b => exact ⟨_, .base (.str b), five (P := fun k => PySem.W.kitOne K (.type "str") (.type (tyNm k)) = some (isiD k (.str b))) rfl rfl rfl rfl rfl⟩
    | @lst p xs ds r _ =>
      rcases rd_mono sub r with r | ⟨o, r⟩
      · exact ⟨_, .base (.lst r), lst ds⟩
      · exact ⟨_, .base (.frz r), lst ds⟩
    | @tup p xs ds r _ =>
      have q : PySem.W.kitOne K (.type "tuple") (.type (tyNm k)) = some (isiD k (.tuple ds)) := five (P := fun k => PySem.W.kitOne K (.type "tuple") (.type (tyNm k)) = some (isiD k (.tuple ds))) rfl rfl rfl rfl rfl
      rcases rd_mono sub r with r | ⟨o, r⟩
      · exact ⟨_, .base (.tup r), q⟩
      · exact ⟨_, .fTuple r, q⟩
theorem so_isi (k : Nat) (hk : k ≤ 4) {T : String} (hT : T = tyNm k) {te : TE} {me : ME c.W.G} (he : SoundE c te me) : SoundE c (tCB (rIsi K) (tCons te (tCons (tC (.ty T)) tNil))) (sUn (oIsi k) me) := by
  subst hT
  intro a0 F0 H0 a g F H s r Q rp post
  refine he _ _ _ _ _ _ _ _ _ _ rp ?_
  unfold sUn at post
  cases h : me r g with
  | no => rw [h] at post; exact post
  | er e g1 => rw [h] at post; exact post
  | ok u g1 =>
    rw [h] at post
    simp only [R.bind_ok] at post
    intro a1 F1 H1 x e1 t1 i1 n1
    cases hf : oIsi k u with
    | none => rw [hf] at post; exact post.elim
    | some w =>
      rw [hf] at post
      unfold oIsi at hf
      split at hf
      · rename_i d hd
        cases hf
        obtain ⟨t, ty, kt⟩ := isi_look e1.fh i1 hd hk
        refine ⟨x, .ty (tyNm k), t, .type (tyNm k), _, rfl, .ty _, ty, kt, ?_⟩
        exact post a1 F1 H1 _ e1 t1 (.bl _) True.intro
      · cases hf
end
end CW
/-! sorted(set(list of pairs)) -/
namespace CW
open PySem L2
section
variable {K : FR} {c : Ctx K} {F H : Hp} {P : Program} {w : World}
abbrev two (p : Int × Int) : List Int := [p.1, p.2]
theorem pairs_dps : ∀ {l : List PyData} {ps : List (Int × Int)} {xs : List V}, pairsOf l = some ps → DpAll K F xs l → ∃ ks : List (Addr × (Int × Int)), xs = ks.map (fun p => V.ref p.1) ∧ ks.map (·.2) = ps ∧ ∀ p ∈ ks, Dp K F (.ref p.1) (encP p.2) ∧ SqT K F p.1 ((two p.2).map V.int)
  | [], ps, xs, h, hd => by cases h; cases hd; exact ⟨[], rfl, rfl, fun p hp => by cases hp⟩
  | d :: ds, ps, xs, h, hd => by
    unfold pairsOf at h
    split at h
    · rename_i h0
      cases h0
    · rename_i a b ds' h0
      cases h0
      cases h1 : pairsOf ds with
      | none => rw [h1] at h; cases h
      | some ms =>
        rw [h1] at h
        cases h
        cases hd with
        | cons h2 h3 =>
          obtain ⟨ks, e1, e2, e3⟩ := pairs_dps h1 h3
          have h2' := h2
          cases h2 with
          | tup r hx =>
            cases hx with
            | cons g1 g2 =>
              cases g2 with
              | cons g3 g4 =>
                cases g4
                have q1 := dp_int g1
                have q2 := dp_int g3
                subst q1
                subst q2
                rename_i ad
                refine ⟨(ad, (a, b)) :: ks, by rw [e1]; rfl, by rw [← e2]; rfl, fun p hp => ?_⟩
                rcases List.mem_cons.mp hp with rfl | hp
                · exact ⟨h2', .inl r⟩
                · exact e3 p hp
    · cases h
theorem dps_refs : ∀ {ks : List (Addr × (Int × Int))}, (∀ p ∈ ks, Dp K F (.ref p.1) (encP p.2)) → DpAll K F (ks.map fun p => V.ref p.1) ((ks.map (·.2)).map encP)
  | [], _ => .nil
  | p :: ks, h => .cons (h p List.mem_cons_self) (dps_refs fun q hq => h q (List.mem_cons_of_mem _ hq))
theorem bd_two {p : Int × Int} (h : 0 ≤ p.1 ∧ p.1 < 1000000 ∧ 0 ≤ p.2 ∧ p.2 < 1000000) : TS.Bd 1000000 (two p) := fun m hm => by
  simp at hm
  rcases hm with rfl | rfl
  · omega
  · omega
theorem so_srtSet {te : TE} {me : ME c.W.G} (he : SoundE c te me) : SoundE c (tCB (rSortedT K P w) (tCons (tCB (rSetOfT K P w) (tCons te tNil)) tNil)) (sUn oSrtSet me) := by
  intro a0 F0 H0 a g F H s r Q rp post
  refine he _ _ _ _ _ _ _ _ _ _ rp ?_
  unfold sUn at post
  cases h : me r g with
  | no => rw [h] at post; exact post
  | er e g1 => rw [h] at post; exact post
  | ok u g1 =>
    rw [h] at post
    simp only [R.bind_ok] at post
    intro a1 F1 H1 x e1 t1 i1 n1
    cases hf : oSrtSet u with
    | none => rw [hf] at post; exact post.elim
    | some v =>
      rw [hf] at post
      unfold oSrtSet at hf
      split at hf
      · rename_i l hl
        split at hf
        · rename_i ps hps
          split at hf
          · rename_i hc
            cases hf
            obtain ⟨p, xs, rfl, hp, hd⟩ := i1.lst e1.fh hl
            obtain ⟨ks, rfl, rfl, hk⟩ := pairs_dps hps hd
            obtain ⟨hlen, hall⟩ := hc
            have hb : ∀ q ∈ ks, TS.Bd 1000000 (two q.2) := fun q hq => bd_two (by
              have := List.all_eq_true.mp hall q.2 (List.mem_map_of_mem hq)
              simp at this
              omega)
            refine ⟨p, ks.map (fun q => (q.1, two q.2)), rfl, .inl (by simpa [Function.comp_def] using hp), ?_, by simpa using hlen, fun ad L hn hsub hsup => ?_⟩
            · intro q hq
              obtain ⟨q', hq', rfl⟩ := List.mem_map.mp hq
              exact sqt_mono e1.fh (hk q' hq').2
            have x1 : PExt F1 H1 F1 (upd H1 ad (SetTO P w ad L)) := PExt.own e1.fh hn
            refine ⟨ad, L, 2, 1000000, rfl, upd_same, ?_, by decide, ?_, fun L' pl hperm hnd hfew hpw hpn => ?_⟩
            · intro q hq
              obtain ⟨q', hq', e⟩ := List.mem_map.mp (hsub q hq)
              rw [← e]
              exact sqt_mono x1.fh (hk q' hq').2
            · intro q hq
              obtain ⟨q', hq', e⟩ := List.mem_map.mp (hsub q hq)
              rw [← e]
              exact ⟨rfl, hb q' hq'⟩
            · have hL' : ∀ q ∈ L', ∃ q' ∈ ks, q = (q'.1, two q'.2) := fun q hq => by
                obtain ⟨q', hq', e⟩ := List.mem_map.mp (hsub q (hperm.mem_iff.mp hq))
                exact ⟨q', hq', e.symm⟩
              have tw : ∀ p q : Int × Int, two p = two q → p = q := fun p q e => by
                simp only [two, List.cons.injEq] at e
                exact Prod.ext e.1 e.2.1
              have ex : ∃ ms : List (Addr × (Int × Int)), (∀ q ∈ ms, q ∈ ks) ∧ L' = ms.map fun q => (q.1, two q.2) := by
                clear hperm hnd hfew hpw
                induction L' with
                | nil => exact ⟨[], fun q hq => absurd hq List.not_mem_nil, rfl⟩
                | cons y L' ih =>
                  obtain ⟨ms, m1, m2⟩ := ih fun q hq => hL' q (List.mem_cons_of_mem _ hq)
                  obtain ⟨q', hq', e⟩ := hL' y List.mem_cons_self
                  refine ⟨q' :: ms, fun q hq => ?_, by rw [m2, e]; rfl⟩
                  rcases List.mem_cons.mp hq with rfl | hq
                  · exact hq'
                  · exact m1 q hq
              obtain ⟨ms, m1, rfl⟩ := ex
              have hs : ms.map (·.2) = srtP (ks.map (·.2)) := by
                refine srt_uniq _ _ ?_ (pw_srtP _) fun z => ?_
                · rw [List.map_map] at hnd
                  rw [List.pairwise_map] at hpw ⊢
                  have hnd2 := List.pairwise_map.mp hnd
                  refine List.Pairwise.imp_of_mem (fun {x y} hx hy hh => ?_) (List.pairwise_and_iff.mpr ⟨hpw, hnd2⟩)
                  rw [ltP_iff]
                  have ne : x.2 ≠ y.2 := fun e => hh.2 (by simp [e])
                  have ne2 : ¬ (x.2.1 = y.2.1 ∧ x.2.2 = y.2.2) := fun z => ne (Prod.ext z.1 z.2)
                  have := code_lex (hb x (m1 x hx)) (hb y (m1 y hy)) hh.1
                  omega
                · rw [mem_srtP]
                  constructor
                  · intro hz
                    obtain ⟨q, hq, rfl⟩ := List.mem_map.mp hz
                    exact List.mem_map_of_mem (m1 q hq)
                  · intro hz
                    obtain ⟨q, hq, rfl⟩ := List.mem_map.mp hz
                    have h1 := hsup (q.1, two q.2) (List.mem_map.mpr ⟨q, hq, rfl⟩)
                    obtain ⟨q2, hq2, e2⟩ := List.mem_map.mp h1
                    obtain ⟨q3, hq3, e3⟩ := List.mem_map.mp (hperm.mem_iff.mpr hq2)
                    refine List.mem_map.mpr ⟨q3, hq3, tw _ _ ?_⟩
                    rw [← e3] at e2
                    exact e2
              have hdp : DpAll K F1 (ms.map fun q => V.ref q.1) ((srtP (ks.map (·.2))).map encP) := by
                rw [← hs]
                exact dps_refs fun q hq => (hk q (m1 q hq)).1
              rw [List.map_map]
              refine own_new (c := c) (a := a1) (g := g1) x1.fh (at_of t1 x1) hdp hpn fun F3 H3 z e3 i3 n3 => ?_
              have e4 := x1.trans e1.fh e3
              exact post a1 F3 H3 z (e1.trans (Ext.of e1.fh e4)) (at_of t1 e4) i3 ((n3.back (x1.al e1.fh)).back e1.al)
          · cases hf
        · cases hf
      · cases hf
end
end CW
namespace CW
open PySem L2
theorem un64 {k : Nat} {A : Around} (r : Room k A) : A.units + 64 < cLine := by have := un65 r; omega
end CW
/-! CwKw: a call that hands in the keyword-only ones by name, all of them, in turn. -/
namespace CW
open PySem PySem.Spec PyProof.Rows L2
def tCallNS (n m : Nat) (sp : Sp) (E : L2.St → XK) (t tk : TA) : TE := fun σ H Q => t σ H fun vs H1 => tk σ H1 fun zs H2 => vs.length = n ∧ zs.length = m ∧ sp (vs ++ zs) H2 Q (E σ)
def HasK (P : Program) (w : World) (K : FR) (mg : Str → Option Value) (base : Heap) (k : Nat) (x : Str) (ps : List Str) (n : Nat) (ks : List Str) (sp : Sp) : Prop :=
  ∃ f fd, FnOk P w K mg base (L2.CX P w) k f fd ps sp ∧ mg x = some (.ref f) ∧ PySem.W.keepIn K (.ref f) = true ∧ KBn K fd ps n ks (fun us ws => us ++ ws) (fun us ws => us ++ ws)
section
variable {X : Cx} {CX : CXT} {k n : Nat} {f : Addr} {fd : FuncData} {ps ks : List Str} {sp : Sp} {E : L2.St → XK} {x : Str} {p pos : Pos} {e : Expr} {es : List Expr} {kws : List Keyword} {t tk : TA} {g : List Value → List Value → List Value}
theorem run_fnNS {pins : List (Addr × Obj)} {σ : L2.St} {H : Hp} {s : Shared} {Q : VK} {us ws : List Value} {vs zs : List V} (F : FnOk X.prog X.w X.K X.mg X.base CX k f fd ps sp) (hr : Room k X.A) (hb : KBn X.K fd ps n ks (fun us ws => us ++ ws) (fun us ws => us ++ ws)) (hx : PassesAt CX X σ (E σ))
    (I : Inv X pins σ H s) (r : Vals vs us) (rz : Vals zs ws) (l1 : vs.length = n) (l2 : zs.length = ks.length) (h : sp (vs ++ zs) H Q (E σ)) : wpAny (model X.prog X.w) X.A (call (.ref f) us (ks.zip ws)) (EP X pins σ Q) X.xe s := by
  have r2 := hb.rel r rz
  refine wpAny_call (codeAny_mono (F.run X.A X.stack s H ⟨us, ks.zip ws⟩ (us ++ ws) (vs ++ zs) Q (E σ) hr I.env0 (hb.to s us ws I.kIn (r.length.symm.trans l1) (rz.length.symm.trans l2)) r2 h) fun r s' hq => ?_)
  cases r with
  | error e => exact hx pins H s e s' I hq
  | ok fl =>
    cases fl with
    | ret u => exact I.after hq
    | next => exact False.elim hq
    | brk => exact False.elim hq
    | cont => exact False.elim hq
theorem pe_callNS (F : FnOk X.prog X.w X.K X.mg X.base CX k f fd ps sp) (hr : Room k X.A) (hg : Gl X x) (hm : X.mg x = some (.ref f)) (hk : PySem.W.keepIn X.K (.ref f) = true) (hb : KBn X.K fd ps n ks (fun us ws => us ++ ws) (fun us ws => us ++ ws)) (hx : ∀ σ, PassesAt CX X σ (E σ))
    (ha : PA X (e :: es) t) (hkw : PK X kws tk) (hall : (backToKw pos (keywordEach kws X.env)).all (·.1.isSome) = true := by rfl) (hks : (backToKw pos (keywordEach kws X.env)).filterMap (·.1) = ks := by rfl)
    (hdb : (x == ("__debug__" : Str)) = false := by decide) (he : starEach (e :: es) X.env = (false, eval e X.env) :: starEach es X.env := by rfl)
    (hpl : ((backTo pos (starEach (e :: es) X.env)).any (·.1) || (backToKw pos (keywordEach kws X.env)).any (·.1.isNone)) = false := by rfl) :
    PE X (.Call (.Name x p) (e :: es) kws pos) (tCallNS n ks.length sp E t tk) := by
  refine ⟨fun pins s σ H Q I h => ?_⟩
  refine wpAny_Call_Name_kw (ld_glob I hg hm ?_ hdb)
  refine PySem.W.callWith_KW (h₀ := X.base) I.ok.mod.kin hk hall (thn (ha.run pos pins s σ H _ I h) fun us s1 ⟨vs, H1, I1, r, q⟩ => ?_) hpl he
  refine thn (hkw.run pos pins s1 σ H1 _ I1 q) fun ws s2 ⟨zs, H2, I2, rz, l1, l2, q2⟩ => ⟨I2.kIn, ?_⟩
  rw [hks]
  exact run_fnNS F hr hb (hx σ) I2 r rz l1 l2 q2
end
section
variable {X : Cx} {j k n : Nat} {ps ks : List Str} {sp : Sp} {x : Str} {p pos : Pos} {e : Expr} {es : List Expr} {kws : List Keyword} {t tk : TA} {W : WX}
theorem pe_callHK (h : HasK X.prog X.w X.K X.mg X.base j x ps n ks sp) (hr : Room k X.A) (hj : j ≤ k) (tks : Takes X W) (hg : Gl X x)
    (ha : PA X (e :: es) t) (hkw : PK X kws tk) {m : Nat} (hml : ks.length = m := by rfl) (hall : (backToKw pos (keywordEach kws X.env)).all (·.1.isSome) = true := by rfl) (hks : (backToKw pos (keywordEach kws X.env)).filterMap (·.1) = ks := by rfl)
    (hdb : (x == ("__debug__" : Str)) = false := by decide) (he : starEach (e :: es) X.env = (false, eval e X.env) :: starEach es X.env := by rfl)
    (hpl : ((backTo pos (starEach (e :: es) X.env)).any (·.1) || (backToKw pos (keywordEach kws X.env)).any (·.1.isNone)) = false := by rfl) :
    PE X (.Call (.Name x p) (e :: es) kws pos) (tCallNS n m sp (fun s => WE W s) t tk) := by
  obtain ⟨f, fd, F, hm, hk, hb⟩ := h
  subst hml
  exact pe_callNS F (hr.mono hj) hg hm hk hb (fun σ => passAt tks σ) ha hkw hall hks hdb he hpl
end
section
variable {K : FR} {x qual : Str} {params : Arguments} {body : List Stmt} {scope : Scope} {kws : List (Str × V)} {f : Addr} {fd : FuncData} {ps : List Str}
theorem kbindsN (F : FunD K x qual params body scope [] kws f fd) (n : Nat) (ks : List Str)
    (h : ∀ (kV doc pm : Value) (an : Option Addr) (cdv ct : Value) (us ws : List Value), us.length = n → ws.length = ks.length → bindArgs (PySem.W.fnOf x qual params body scope .none kV doc pm an cdv ct) ⟨us, ks.zip ws⟩ = pure (ps.zip (us ++ ws))) :
    KBn K fd ps n ks (fun us ws => us ++ ws) (fun us ws => us ++ ws) := by
  obtain ⟨oc, od, dV, kV, doc, pm, an, cdv, ct, osl, rfl, lk, hcd, hD, hK⟩ := F.ex
  rcases hD with ⟨_, rfl⟩ | ⟨e, _⟩
  · exact ⟨fun s us ws X l1 l2 => .of_eq (h kV doc pm an cdv ct us ws l1 l2), fun r1 r2 => r1.append r2⟩
  · exact absurd rfl e
end
section
variable {K : FR} {c : Ctx K}
theorem frzAll_len : ∀ {vs : List Vl} {ds : List PyData}, frzAll vs = some ds → ds.length = vs.length
  | [], ds, h => by simp at h; subst h; rfl
  | v :: vs, ds, h => by
    simp only [frzAll] at h
    cases h1 : v.frz with
    | none => rw [h1] at h; cases h
    | some d =>
      cases h2 : frzAll vs with
      | none => rw [h1, h2] at h; cases h
      | some es =>
        rw [h1, h2] at h
        cases h
        rw [List.length_cons, frzAll_len h2, List.length_cons]
theorem AreV.len {W : Wld K} {a : W.A} {F H H0 : Hp} : ∀ {xs : List V} {vs : List Vl}, AreV W a F H H0 xs vs → xs.length = vs.length
  | _, _, .nil => rfl
  | _, _, .cons _ _ _ t => by rw [List.length_cons, List.length_cons, AreV.len t]
theorem so_callK {mg : Str → Option Value} {n n1 m : Nat} {f : List PyData → R Vl Unit} {ta tk : TA} {ma mk : MA c.W.G} (hmg : c.mg = mg) (hn : ∀ ds, ds.length ≠ n → f ds = .no) (ha : SoundA c ta ma) (hk : SoundA c tk mk) :
    SoundE c (tCallNS n1 m (spP K mg n f) (fun s => WE c.Wx s) ta tk) (sCallK f n1 m ma mk) := by
  subst hmg
  intro a0 F0 H0 a g F H s r Q rp post
  refine ha _ _ _ _ _ _ _ _ _ _ rp ?_
  unfold sCallK at post
  cases h : ma r g with
  | no => rw [h] at post; exact post
  | er e g1 => rw [h] at post; exact post
  | ok vs g1 =>
    rw [h] at post
    simp only [R.bind_ok] at post
    intro a1 F1 H1 xs e1 t1 i1
    refine hk _ _ _ _ _ _ _ _ _ _ (rp.step e1 t1) ?_
    cases h3 : mk r g1 with
    | no => rw [h3] at post; exact post
    | er e g2 => rw [h3] at post; exact fun a' F' H' C d e2 t2 i => post a' F' H' C d (e1.trans e2) t2 i
    | ok zs g2 =>
      rw [h3] at post
      simp only [R.bind_ok] at post
      intro a2 F2 H2 ys e2 t2 i2
      have e12 := e1.trans e2
      have j1 := (i1.step e2)
      have j2 := i2.back e1.al
      cases h4 : frzAll vs with
      | none => rw [h4] at post; exact post.elim
      | some ds =>
        cases h5 : frzAll zs with
        | none => rw [h4, h5] at post; exact post.elim
        | some es =>
          rw [h4, h5] at post
          simp only at post
          have hd := dps_app (frz_dps j1 h4) (frz_dps j2 h5)
          have l1 := frzAll_len h4
          have l2 := frzAll_len h5
          have l3 := i1.len
          have l4 := i2.len
          split at post
          · rename_i hl
            have e3 := letGo_ext e12
            have t3 := letGo_at e12 t2
            refine ⟨by omega, by omega, ?_, _, ds ++ es, e3.fh, hd, ?_⟩
            · rw [dps_len hd]
              refine Classical.byContradiction fun z => ?_
              rw [hn _ z] at post
              exact post
            · cases hf : f (ds ++ es) with
              | no => rw [hf] at post; exact post.elim
              | er e u =>
                rw [hf] at post
                exact fun F' H' C d e4 i => post a2 F' H' C d (e3.trans (Ext.of e3.fh e4)) (at_of t3 e4) i
              | ok v u =>
                rw [hf] at post
                intro F' H' x e4 i
                have e5 := e3.trans (Ext.of e3.fh e4)
                have t5 := at_of t3 e4
                cases v with
                | dat d => exact post a2 F' H' x e5 t5 i True.intro
                | own l =>
                  obtain ⟨p, ys, rfl, hp, hd2, fp, np⟩ := i
                  have rp' : ¬ c.W.reg a2 p := fun q => (c.W.off t3 q).2 np
                  exact post a2 F' H' _ e5 t5 ⟨p, ys, rfl, hp, hd2, fp, rp'⟩ ⟨p, rfl, Classical.byContradiction fun z => e12.al p z np⟩
                | tok n => exact i.elim
                | lent l => exact i.elim
          · exact post.elim
end
end CW
/-! CwSum: sum of a list or a tuple; x += y, x -= y of whole numbers. -/
namespace CW
open PySem PySem.Spec PyProof.Rows L2
section
variable {X : Cx} {K : FR} {c : Ctx K}
def rSumA (K : FR) : List V → Hp → VK → Prop := fun vs H Q => ∃ (a : Addr) (ns : List Int), vs = [V.ref a] ∧ (SqL K H a (ns.map V.int) ∨ SqT K H a (ns.map V.int)) ∧ Q (.int ns.sum) H
theorem cr_sumA (hc : X.calm = true) : CallR X (.builtin "sum") (rSumA X.K) := by
  intro pins s σ H vs us Q I r h
  obtain ⟨a, ns, rfl, hs | hs, q⟩ := h
  · exact cr_sum hc pins s σ H _ _ _ I r ⟨a, ns, rfl, hs, q⟩
  · obtain ⟨its, rv, hl, _⟩ := I.tuple hs
    rw [Vals.ref1 r]
    obtain ⟨ol, hol, hcl, nl, hdl⟩ := hl
    have hl2 : s.heap.IsTuple a its.toArray := ⟨ol, hol, hcl, nl, hdl⟩
    obtain ⟨xs, e⟩ := rv.ints.allInts.items
    have hn : numsOf (intItems xs).toList = ns := by rw [← e]; exact rv.ints.numsOf
    rw [nums_intItems] at hn
    rw [e] at hl2
    refine PySem.W.ktm_sumG (I.ok.hd hc) hl2 fun h' tk t' hk => ?_
    have e2 : preSum (numAt xs) xs.size = ns.sum := by rw [preSum_eq, List.take_of_length_le (by simp), hn]
    rw [e2]
    exact ⟨.int _, H, I.kept hk, ⟨_, rfl⟩, q⟩
theorem sb_sumA : SoundB c (rSumA K) bSum := by
  intro a g F H Hs xs vs w Q sub t i h k
  unfold bSum at h
  split at h
  · split at h
    · rename_i x l hl
      cases hn : intsOf l with
      | none => rw [hn] at h; cases h
      | some ns =>
        rw [hn] at h
        cases h
        cases i with
        | cons iv n d t2 =>
          cases t2
          obtain ⟨p, xs, rfl, hx, hk⟩ := iv.seq sub hl
          have e := intsOf_dps hn hx
          subst e
          refine ⟨p, ns, rfl, ?_, k F H _ (PExt.refl sub) (.int _) True.intro⟩
          rcases hk with ⟨_, hk⟩ | ⟨_, hk, hf⟩
          · exact .inl (.inl hk)
          · exact .inr (.inl hk)
    · cases h
  · cases h
theorem sr_ipAdd : SoundR c (ipI fun i j => i + j) oAddI := by
  intro a g F H x y u v w Q sub t iu iv h k
  unfold oAddI at h
  split at h
  · cases h; exact ⟨_, _, dp_int iu, dp_int iv, k F H _ (PExt.refl sub) (.int _) True.intro⟩
  · cases h
theorem sr_ipSub : SoundR c (ipI fun i j => i - j) oSub := by
  intro a g F H x y u v w Q sub t iu iv h k
  unfold oSub at h
  split at h
  · cases h; exact ⟨_, _, dp_int iu, dp_int iv, k F H _ (PExt.refl sub) (.int _) True.intro⟩
  · cases h
end
end CW
/-! CwLc2: a comprehension of two fors, without tests, the first over a name. -/
namespace CW
open PySem L2
section
variable {K : FR} {c : Ctx K}
theorem lcGo_len {G : Type} {r : Env} {tg : MG} {tt : MT G} {e : ME G} : ∀ {items acc : List PyData} {g : G} {res : List PyData} {g2 : G}, lcGo r tg tt e items acc g = .ok res g2 → acc.length ≤ res.length
  | [], acc, g, res, g2, h => by unfold lcGo at h; cases h; exact Nat.le_refl _
  | x :: xs, acc, g, res, g2, h => by
    unfold lcGo at h
    cases htg : tg (.dat x) r with
    | none => rw [htg] at h; cases h
    | some r' =>
      rw [htg] at h
      simp only at h
      cases htt : tt r' g with
      | no => rw [htt] at h; cases h
      | er e g3 => rw [htt] at h; cases h
      | ok b g3 =>
        rw [htt] at h
        cases b with
        | false => exact lcGo_len h
        | true =>
          simp only at h
          cases he : e r' g3 with
          | no => rw [he] at h; cases h
          | er e g3 => rw [he] at h; cases h
          | ok v g4 =>
            rw [he] at h
            simp only at h
            cases hv : v.frz with
            | none => rw [hv] at h; cases h
            | some d =>
              rw [hv] at h
              have := lcGo_len h
              simp at this
              omega
theorem lcGo2_len {G : Type} {r : Env} {i : Nat} {it1 : MI G} {tg1 : MG} {vs1 : List Nat} {e : ME G} : ∀ {items acc : List PyData} {g : G} {res : List PyData} {g2 : G}, lcGo2 r i it1 tg1 vs1 e items acc g = .ok res g2 → acc.length ≤ res.length
  | [], acc, g, res, g2, h => by unfold lcGo2 at h; cases h; exact Nat.le_refl _
  | x :: xs, acc, g, res, g2, h => by
    unfold lcGo2 at h
    cases hi : it1 (r.set i (some (.dat x))) g with
    | no => rw [hi] at h; cases h
    | er e g3 => rw [hi] at h; cases h
    | ok items g3 =>
      rw [hi] at h
      simp only at h
      cases hg : lcGo (CW.wipe (r.set i (some (.dat x))) vs1) tg1 sYes e items acc g3 with
      | no => rw [hg] at h; cases h
      | er e g3 => rw [hg] at h; cases h
      | ok acc' g4 =>
        rw [hg] at h
        exact Nat.le_trans (lcGo_len hg) (lcGo2_len h)
theorem so_lc2 {wi wi1 : TI} {it it1 : MI c.W.G} {i : Nat} {tg1 : TG} {mg1 : MG} {sl1 : List Nat} {te : TE} {me : ME c.W.G} {vs vs1 : List Nat} (hi : SoundI c wi it) (hiv : i ∈ vs) (hi1 : SoundI c.calm wi1 it1) (hg1 : SoundG c.calm tg1 mg1 sl1) (hsl1 : ∀ i ∈ sl1, i ∈ vs1) (he : SoundE c.calm te me) :
    SoundE c (tLc2 wi (gName i) tYes wi1 tg1 tYes te vs vs1) (sLc2 it i it1 mg1 me vs vs1) := by
  intro a0 F0 H0 a g F H s r Q rp post
  refine hi _ _ _ _ _ _ _ _ _ _ rp ?_
  unfold sLc2 at post
  cases h : it r g with
  | no => rw [h] at post; exact post
  | er e g1 => rw [h] at post; exact post
  | ok items g1 =>
    rw [h] at post
    simp only [R.bind_ok] at post
    have hlen : items.length ≤ 1000000 := Classical.byContradiction fun hn => by
      rw [if_neg hn] at post
      exact post
    rw [if_pos hlen] at post
    intro a1 F1 H1 J e1 t1 wk Dl hD
    obtain ⟨G, Y, w, hG, hY⟩ := wk
    cases hgo : lcGo2 (CW.wipe r vs) i it1 mg1 vs1 me items [] g1 with
    | no => rw [hgo] at post; exact post.elim
    | er e g2 => rw [hgo] at post; exact post.elim
    | ok res g2 =>
      rw [hgo] at post
      simp only at post
      have hres : res.length ≤ 1000000 := Classical.byContradiction fun hn => by
        rw [if_neg hn] at post
        exact post
      rw [if_pos hres] at post
      have rD : ¬ c.W.reg a1 Dl := fun q => (c.W.off t1 q).2 hD
      have fD : F1 Dl = none := by
        cases q : F1 Dl with
        | none => rfl
        | some o => rw [e1.fh Dl o q] at hD; cases hD
      have hDn : H Dl = none := Classical.byContradiction fun z => e1.al Dl z hD
      obtain ⟨n, hn⟩ : ∃ n, n = items.length := ⟨_, rfl⟩
      refine ⟨fun k m H2 => m = n - k ∧ k ≤ n ∧ ∃ (a2 : c.W.A) (g' : c.W.G) (F2 : Hp) (xs : List V) (acc : List PyData), Ext c.W a F H a2 F2 H2 ∧ c.W.at_ a2 g' F2 H2 ∧ (∀ b o, F1 b = some o → F2 b = some o) ∧ F2 Dl = none ∧ ¬ c.W.reg a2 Dl ∧ H2 Dl = some (.lst xs) ∧ DpAll K F2 xs acc ∧
        lcGo2 (CW.wipe r vs) i it1 mg1 vs1 me (items.drop k) acc g' = .ok res g2, ⟨n, by simp, Nat.zero_le _, ?_⟩, ?_⟩
      · have e3 := PExt.own (o := .lst []) e1.fh hD
        exact ⟨a1, g1, F1, [], [], e1.trans (Ext.of e1.fh e3), at_of t1 e3, fun _ _ z => z, fD, rD, upd_same, .nil, hgo⟩
      · rintro k m H2 ⟨rfl, hk, a2, g', F2, xs, acc, e2, t2, f2, fD2, rD2, hD2, hd, go⟩
        have hGk := hG F2 H2 f2 e2.fh
        by_cases hlt : k < n
        · refine .inr ⟨w.goes k H2 (by omega) hGk, fun H' => k + 1 ≤ n ∧ ∃ (a2 : c.W.A) (g' : c.W.G) (F2 : Hp) (xs : List V) (acc : List PyData), Ext c.W a F H a2 F2 H' ∧ c.W.at_ a2 g' F2 H' ∧ (∀ b o, F1 b = some o → F2 b = some o) ∧ F2 Dl = none ∧ ¬ c.W.reg a2 Dl ∧ H' Dl = some (.lst xs) ∧ DpAll K F2 xs acc ∧
            lcGo2 (CW.wipe r vs) i it1 mg1 vs1 me (items.drop (k + 1)) acc g' = .ok res g2, fun H' p => ⟨n - (k + 1), by omega, rfl, p.1, p.2⟩, fun x H3 y => ?_⟩
          obtain ⟨F3, d, e3, hit, hx⟩ := hY k F2 H2 x H3 f2 e2.fh (w.yields k H2 x H3 (by omega) hGk y) (by omega)
          have hdrop : items.drop k = d :: items.drop (k + 1) := by
            rw [List.drop_eq_getElem_cons (by omega)]
            rw [List.getElem?_eq_getElem (by omega)] at hit
            rw [Option.some.inj hit]
          rw [hdrop] at go
          unfold lcGo2 at go
          have e23 := e2.trans (Ext.of e2.fh e3)
          have t3 := at_of t2 e3
          have hD3 : F3 Dl = none ∧ H3 Dl = some (.lst xs) := by
            obtain ⟨q1, q2⟩ := e3.st Dl (by rw [hD2]; simp) fD2
            exact ⟨q1, q2.trans hD2⟩
          have hd3 := dps_mono e3.ff acc hd
          -- the slots of a turn, at any later moment
          have mkRep : ∀ {a5 : c.W.A} {g5 : c.W.G} {F5 H5 : Hp}, Ext c.W a F H a5 F5 H5 → c.W.at_ a5 g5 F5 H5 → (∀ b o, F3 b = some o → F5 b = some o) → Rep c.W a0 F0 H0 a5 g5 F5 H5 ((L2.wipe s vs).set i (some x)) ((CW.wipe r vs).set i (some (.dat d))) := fun {a5 g5 F5 H5} e5 t5 f5 =>
            ((rp.step e5 t5).wipe vs).set (v := .dat d) (dp_mono f5 d hx) True.intro (fun l z => by cases z)
          cases hit1 : it1 ((CW.wipe r vs).set i (some (.dat d))) g' with
          | no => rw [hit1] at go; cases go
          | er e g3 => rw [hit1] at go; cases go
          | ok items1 g3 =>
            rw [hit1] at go
            simp only at go
            cases hgo1 : lcGo (CW.wipe ((CW.wipe r vs).set i (some (.dat d))) vs1) mg1 sYes me items1 acc g3 with
            | no => rw [hgo1] at go; cases go
            | er e g3 => rw [hgo1] at go; cases go
            | ok acc' g4 =>
              rw [hgo1] at go
              simp only at go
              have lacc := lcGo2_len go
              show (L2.wipe ((L2.wipe s vs).set i (some x)) vs = L2.wipe s vs ∧ _)
              refine ⟨wipe_again (by simp) (fun j hj => List.getElem?_set_ne fun e => hj (by rw [← e]; exact hiv)), ?_⟩
              dsimp only [tYes]
              rw [if_pos rfl]
              refine hi1 _ _ _ _ _ _ _ _ _ _ (mkRep e23 t3 fun _ _ z => z) ?_
              rw [hit1]
              intro a4 F4 H4 J1 e4 t4 wk1
              obtain ⟨G1, Y1, w1, hG1, hY1⟩ := wk1
              obtain ⟨n1, hn1⟩ : ∃ n1, n1 = items1.length := ⟨_, rfl⟩
              have e24 := e23.trans e4
              refine ⟨fun j m H5 => m = n1 - j ∧ j ≤ n1 ∧ ∃ (a5 : c.W.A) (g5 : c.W.G) (F5 : Hp) (xs : List V) (ac : List PyData), Ext c.W a F H a5 F5 H5 ∧ c.W.at_ a5 g5 F5 H5 ∧ (∀ b o, F4 b = some o → F5 b = some o) ∧ F5 Dl = none ∧ ¬ c.W.reg a5 Dl ∧ H5 Dl = some (.lst xs) ∧ DpAll K F5 xs ac ∧
                lcGo (CW.wipe ((CW.wipe r vs).set i (some (.dat d))) vs1) mg1 sYes me (items1.drop j) ac g5 = .ok acc' g4, ⟨n1, by simp, Nat.zero_le _, ?_⟩, ?_⟩
              · obtain ⟨q1, q2, q3⟩ := e4.st Dl (by rw [hD3.2]; simp) hD3.1 rD2
                exact ⟨a4, g3, F4, xs, acc, e24, t4, fun _ _ z => z, q1, q3, q2.trans hD3.2, dps_mono e4.ff acc hd3, hgo1⟩
              · rintro j m H5 ⟨rfl, hj, a5, g5, F5, ys, ac, e5, t5, f5, fD5, rD5, hD5, hdy, goj⟩
                have hGj := hG1 F5 H5 f5 e5.fh
                by_cases hltj : j < n1
                · refine .inr ⟨w1.goes j H5 (by omega) hGj, fun H' => j + 1 ≤ n1 ∧ ∃ (a5 : c.W.A) (g5 : c.W.G) (F5 : Hp) (xs : List V) (ac : List PyData), Ext c.W a F H a5 F5 H' ∧ c.W.at_ a5 g5 F5 H' ∧ (∀ b o, F4 b = some o → F5 b = some o) ∧ F5 Dl = none ∧ ¬ c.W.reg a5 Dl ∧ H' Dl = some (.lst xs) ∧ DpAll K F5 xs ac ∧
                    lcGo (CW.wipe ((CW.wipe r vs).set i (some (.dat d))) vs1) mg1 sYes me (items1.drop (j + 1)) ac g5 = .ok acc' g4, fun H' p => ⟨n1 - (j + 1), by omega, rfl, p.1, p.2⟩, fun x1 H6 y1 => ?_⟩
                  obtain ⟨F6, d1, e6, hit1', hx1⟩ := hY1 j F5 H5 x1 H6 f5 e5.fh (w1.yields j H5 x1 H6 (by omega) hGj y1) (by omega)
                  have hdrop1 : items1.drop j = d1 :: items1.drop (j + 1) := by
                    rw [List.drop_eq_getElem_cons (by omega)]
                    rw [List.getElem?_eq_getElem (by omega)] at hit1'
                    rw [Option.some.inj hit1']
                  rw [hdrop1] at goj
                  unfold lcGo at goj
                  have e56 := e5.trans (Ext.of e5.fh e6)
                  have t6 := at_of t5 e6
                  have hD6 : F6 Dl = none ∧ H6 Dl = some (.lst ys) := by
                    obtain ⟨q1, q2⟩ := e6.st Dl (by rw [hD5]; simp) fD5
                    exact ⟨q1, q2.trans hD5⟩
                  have hd6 := dps_mono e6.ff ac hdy
                  have rp6 := (mkRep e56 t6 fun b o z => e6.ff b o (f5 b o (e4.ff b o z))).wipe vs1
                  refine hg1 _ _ _ _ _ _ _ _ _ _ (.dat d1) _ rp6 hx1 True.intro ?_
                  cases htg : mg1 (.dat d1) (CW.wipe ((CW.wipe r vs).set i (some (.dat d))) vs1) with
                  | none => rw [htg] at goj; cases goj
                  | some r' =>
                    rw [htg] at goj
                    simp only [sYes] at goj
                    simp only
                    intro s' rp' hl' hk'
                    refine ⟨wipe_again hl' (fun q hq => hk' q fun z => hq (hsl1 q z)), ?_⟩
                    rw [if_pos True.intro]
                    refine he _ _ _ _ _ _ _ _ _ _ rp' ?_
                    cases hme : me r' g5 with
                    | no => rw [hme] at goj; cases goj
                    | er e g4 => rw [hme] at goj; cases goj
                    | ok v g6 =>
                      rw [hme] at goj
                      simp only at goj
                      intro a7 F7 H7 z e7 t7 i7 n7
                      cases hv : v.frz with
                      | none => rw [hv] at goj; cases goj
                      | some dz =>
                        rw [hv] at goj
                        simp only at goj
                        have hz := frz_dp (H := H6) i7 n7 hv
                        have e8 := letGo_ext e7
                        have t8 := letGo_at e7 t7
                        obtain ⟨q1, q2, q3⟩ := e8.st Dl (by rw [hD6.2]; simp) hD6.1 rD5
                        have hd8 := dps_mono e8.ff ac hd6
                        have lac := lcGo_len goj
                        have e9 : Ext c.W a F H a7 (letGo (c.W.reg a7) H6 F7 H7) H7 := e56.trans e8
                        refine ⟨ys, q2.trans hD6.2, ?_, by omega, a7, g6, _, ys ++ [z], ac ++ [dz], ?_, ?_, fun b o z => e8.ff b o (e6.ff b o (f5 b o z)), q1, q3, upd_same, dps_app hd8 (.cons hz .nil), goj⟩
                        · rw [dps_len hd8]
                          rw [List.length_append] at lac
                          exact Nat.lt_of_le_of_lt (show ac.length ≤ 1000000 by omega) (by decide)
                        · refine ⟨e9.ff, fun b o z => ?_, fun b z f nn => ?_, e9.rg, fun b z => ?_, e9.tk⟩
                          · by_cases eb : b = Dl
                            · subst eb
                              rw [q1] at z
                              cases z
                            · rw [upd_ne eb]
                              exact e9.fh b o z
                          · have eb : b ≠ Dl := fun eb => by subst eb; exact z hDn
                            obtain ⟨z1, z2, z3⟩ := e9.st b z f nn
                            exact ⟨z1, by rw [upd_ne eb]; exact z2, z3⟩
                          · by_cases eb : b = Dl
                            · subst eb
                              rw [upd_same]
                              simp
                            · rw [upd_ne eb]
                              exact e9.al b z
                        · exact c.W.keep t8 (fun _ _ z => z) fun b z => ⟨(c.W.off t8 z).1, upd_ne fun eb => by subst eb; exact q3 z⟩
                · have ej : j = n1 := by omega
                  subst ej
                  rw [hn1, List.drop_length] at goj
                  unfold lcGo at goj
                  cases goj
                  refine .inl ⟨by rw [hn1]; exact w1.stops H5 hGj, by omega, a5, _, F5, ys, _, e5, t5, fun b o z => f5 b o (e4.ff b o (e3.ff b o (f2 b o z))), fD5, rD5, hD5, hdy, go⟩
        · have ek : k = n := by omega
          subst ek
          rw [hn, List.drop_length] at go
          unfold lcGo2 at go
          cases go
          refine .inl ⟨by rw [hn]; exact w.stops H2 hGk, ?_⟩
          exact post a2 F2 H2 (.ref Dl) e2 t2 ⟨Dl, xs, rfl, hD2, hd, fD2, rD2⟩ ⟨Dl, rfl, hDn⟩
end
end CW
/-! CwObj: objects of an own class: their fields, their methods. -/
namespace CW
open PySem L2
/-! ### fields -/
section
variable {K : FR} {F H F' H' : Hp}
inductive FvsAt (K : FR) (F H : Hp) : List Addr → List V → List FV → Prop
  | nil : FvsAt K F H [] [] []
  | dat {qs : List Addr} {vs : List V} {gs : List FV} {v : V} {d : PyData} : Dp K F v d → FvsAt K F H qs vs gs → FvsAt K F H qs (v :: vs) (.dat d :: gs)
  | own {qs : List Addr} {vs : List V} {gs : List FV} {q : Addr} {xs : List V} {l : List PyData} : H q = some (.lst xs) → DpAll K F xs l → FvsAt K F H qs vs gs → FvsAt K F H (q :: qs) (.ref q :: vs) (.own l :: gs)
theorem FvsAt.len : ∀ {qs : List Addr} {vs : List V} {gs : List FV}, FvsAt K F H qs vs gs → vs.length = gs.length
  | _, _, _, .nil => rfl
  | _, _, _, .dat _ t => by rw [List.length_cons, List.length_cons, t.len]
  | _, _, _, .own _ _ t => by rw [List.length_cons, List.length_cons, t.len]
theorem FvsAt.mono (ff : ∀ b o, F b = some o → F' b = some o) : ∀ {qs : List Addr} {vs : List V} {gs : List FV}, FvsAt K F H qs vs gs → (∀ b ∈ qs, H' b = H b) → FvsAt K F' H' qs vs gs
  | _, _, _, .nil, _ => .nil
  | _, _, _, .dat d t, h => .dat (dp_mono ff _ d) (t.mono ff h)
  | _, _, _, .own q d t, h => .own ((h _ List.mem_cons_self).trans q) (dps_mono ff _ d) (t.mono ff fun b hb => h b (List.mem_cons_of_mem _ hb))
theorem FvsAt.getD : ∀ {qs : List Addr} {vs : List V} {gs : List FV} {i : Nat} {d : PyData}, FvsAt K F H qs vs gs → gs[i]? = some (.dat d) → ∃ v, vs[i]? = some v ∧ Dp K F v d
  | _, _, _, _, _, .nil, e => by simp at e
  | _, _, _, 0, _, .dat h _, e => by simp at e; subst e; exact ⟨_, rfl, h⟩
  | _, _, _, i + 1, _, .dat _ t, e => by
    obtain ⟨v, h1, h2⟩ := t.getD (i := i) (by simpa using e)
    exact ⟨v, by simpa using h1, h2⟩
  | _, _, _, 0, _, .own _ _ _, e => by simp at e
  | _, _, _, i + 1, _, .own _ _ t, e => by
    obtain ⟨v, h1, h2⟩ := t.getD (i := i) (by simpa using e)
    exact ⟨v, by simpa using h1, h2⟩
theorem FvsAt.getO : ∀ {qs : List Addr} {vs : List V} {gs : List FV} {i : Nat} {l : List PyData}, FvsAt K F H qs vs gs → gs[i]? = some (.own l) → ∃ q xs, vs[i]? = some (.ref q) ∧ q ∈ qs ∧ H q = some (.lst xs) ∧ DpAll K F xs l
  | _, _, _, _, _, .nil, e => by simp at e
  | _, _, _, 0, _, .dat _ _, e => by simp at e
  | _, _, _, i + 1, _, .dat _ t, e => by
    obtain ⟨q, xs, h1, h2, h3⟩ := t.getO (i := i) (by simpa using e)
    exact ⟨q, xs, by simpa using h1, h2, h3⟩
  | _, _, _, 0, _, .own h d _, e => by simp at e; subst e; exact ⟨_, _, rfl, List.mem_cons_self, h, d⟩
  | _, _, _, i + 1, _, .own _ _ t, e => by
    obtain ⟨q, xs, h1, h2, h3⟩ := t.getO (i := i) (by simpa using e)
    exact ⟨q, xs, by simpa using h1, List.mem_cons_of_mem _ h2, h3⟩
/-- a field becomes data -/
theorem FvsAt.setD {v : V} {d : PyData} (hv : Dp K F v d) : ∀ {qs : List Addr} {vs : List V} {gs : List FV} (i : Nat), FvsAt K F H qs vs gs → ∃ qs' : List Addr, qs'.Sublist qs ∧ FvsAt K F H qs' (vs.set i v) (gs.set i (.dat d))
  | _, _, _, _, .nil => ⟨[], List.Sublist.refl _, .nil⟩
  | _, _, _, 0, .dat _ t => ⟨_, List.Sublist.refl _, .dat hv t⟩
  | _, _, _, i + 1, .dat h t => let ⟨qs', s, t'⟩ := FvsAt.setD hv i t; ⟨qs', s, .dat h t'⟩
  | _, _, _, 0, .own _ _ t => ⟨_, List.sublist_cons_self _ _, .dat hv t⟩
  | _, _, _, i + 1, .own h e t => let ⟨qs', s, t'⟩ := FvsAt.setD hv i t; ⟨_, s.cons₂ _, .own h e t'⟩
/-- a field becomes a list of the object's own -/
theorem FvsAt.setO {q : Addr} {xs : List V} {l : List PyData} (hq : H q = some (.lst xs)) (hd : DpAll K F xs l) : ∀ {qs : List Addr} {vs : List V} {gs : List FV} (i : Nat), i < gs.length → FvsAt K F H qs vs gs → q ∉ qs → qs.Nodup →
    ∃ qs' : List Addr, (∀ b ∈ qs', b = q ∨ b ∈ qs) ∧ qs'.Nodup ∧ FvsAt K F H qs' (vs.set i (.ref q)) (gs.set i (.own l))
  | _, _, _, _, hl, .nil, _, _ => absurd hl (by simp)
  | _, _, _, 0, _, .dat _ t, nq, nd => ⟨_, fun b hb => List.mem_cons.mp hb, List.nodup_cons.mpr ⟨nq, nd⟩, .own hq hd t⟩
  | _, _, _, i + 1, hl, .dat h t, nq, nd => let ⟨qs', s, n, t'⟩ := FvsAt.setO hq hd i (by simpa using hl) t nq nd; ⟨qs', s, n, .dat h t'⟩
  | _, _, _, 0, _, .own _ _ t, nq, nd => ⟨_, fun b hb => (List.mem_cons.mp hb).imp id (List.mem_cons_of_mem _), List.nodup_cons.mpr ⟨fun z => nq (List.mem_cons_of_mem _ z), (List.nodup_cons.mp nd).2⟩, .own hq hd t⟩
  | _, _, _, i + 1, hl, .own (q := p) h e t, nq, nd => by
    obtain ⟨n1, n2⟩ := List.nodup_cons.mp nd
    obtain ⟨qs', s, n, t'⟩ := FvsAt.setO hq hd i (by simpa using hl) t (fun z => nq (List.mem_cons_of_mem _ z)) n2
    refine ⟨p :: qs', fun b hb => ?_, List.nodup_cons.mpr ⟨fun z => ?_, n⟩, .own h e t'⟩
    · rcases List.mem_cons.mp hb with rfl | hb
      · exact .inr List.mem_cons_self
      · exact (s b hb).imp id (List.mem_cons_of_mem _)
    · rcases s p z with rfl | z
      · exact nq List.mem_cons_self
      · exact n1 z
theorem FvsAt.appD {v : V} {d : PyData} (hv : Dp K F v d) : ∀ {qs : List Addr} {vs : List V} {gs : List FV}, FvsAt K F H qs vs gs → FvsAt K F H qs (vs ++ [v]) (gs ++ [.dat d])
  | _, _, _, .nil => .dat hv .nil
  | _, _, _, .dat h t => .dat h (t.appD hv)
  | _, _, _, .own h e t => .own h e (t.appD hv)
theorem FvsAt.appO {q : Addr} {xs : List V} {l : List PyData} (hq : H q = some (.lst xs)) (hd : DpAll K F xs l) : ∀ {qs : List Addr} {vs : List V} {gs : List FV}, FvsAt K F H qs vs gs → FvsAt K F H (qs ++ [q]) (vs ++ [.ref q]) (gs ++ [.own l])
  | _, _, _, .nil => .own hq hd .nil
  | _, _, _, .dat h t => .dat h (t.appO hq hd)
  | _, _, _, .own h e t => .own h e (t.appO hq hd)
/-- a list of the object's own becomes another one -/
theorem FvsAt.chg {q : Addr} {xs' : List V} {l' : List PyData} (hd : DpAll K F xs' l') : ∀ {qs : List Addr} {vs : List V} {gs : List FV} (i : Nat), FvsAt K F H qs vs gs → qs.Nodup → vs[i]? = some (.ref q) → q ∈ qs → (∃ l, gs[i]? = some (.own l)) → FvsAt K F (upd H q (.lst xs')) qs vs (gs.set i (.own l'))
  | _, _, _, _, .nil, _, h, _, _ => by simp at h
  | _, _, _, 0, .dat _ _, _, _, _, ⟨l, e⟩ => by simp at e
  | _, _, _, i + 1, .dat h t, nd, hv, hq, ⟨l, e⟩ => .dat h (t.chg hd i nd (by simpa using hv) hq ⟨l, by simpa using e⟩)
  | _, _, _, 0, .own (q := p) h e t, nd, hv, hq, _ => by
    simp at hv
    subst hv
    exact .own upd_same hd (t.mono (fun _ _ z => z) fun b hb => upd_ne fun z => by subst z; exact (List.nodup_cons.mp nd).1 hb)
  | _, _, _, i + 1, .own (q := p) h e t, nd, hv, hq, ⟨l, el⟩ => by
    obtain ⟨n1, n2⟩ := List.nodup_cons.mp nd
    obtain ⟨q', xs, h1, h2, h3, _⟩ := t.getO (i := i) (l := l) (by simpa using el)
    have hv' : _ := hv
    rw [List.getElem?_cons_succ, h1] at hv'
    cases hv'
    have pq : p ≠ q := fun z => by subst z; exact n1 h2
    exact .own (by rw [upd_ne pq]; exact h) e (t.chg hd i n2 h1 h2 ⟨l, by simpa using el⟩)
end
theorem look_key : ∀ {fs : List (Str × V)} {N : List Str} {i : Nat} {f : Str}, fs.map (·.1) = N → N.Nodup → N[i]? = some f → fs.lookup f = (fs[i]?).map (·.2)
  | [], _, i, f, e, _, h => by subst e; simp at h
  | (k, v) :: fs, _, 0, f, e, nd, h => by
    subst e
    simp at h
    subst h
    simp [List.lookup]
  | (k, v) :: fs, _, i + 1, f, e, nd, h => by
    subst e
    simp only [List.map_cons, List.getElem?_cons_succ] at h
    have nd' := List.nodup_cons.mp nd
    have hf : f ∈ fs.map (·.1) := List.mem_of_getElem? h
    have ne : (f == k) = false := by
      rw [beq_eq_false_iff_ne]
      intro z
      subst z
      exact nd'.1 hf
    simp only [List.lookup, ne, List.getElem?_cons_succ]
    exact look_key rfl nd'.2 h
theorem look_no : ∀ {fs : List (Str × V)} {f : Str}, f ∉ fs.map (·.1) → fs.lookup f = none
  | [], _, _ => rfl
  | (k, v) :: fs, f, h => by
    have ne : (f == k) = false := by
      rw [beq_eq_false_iff_ne]
      intro z
      subst z
      exact h List.mem_cons_self
    simp only [List.lookup, ne]
    exact look_no fun z => h (List.mem_cons_of_mem _ z)
theorem put_key : ∀ {fs : List (Str × V)} {i : Nat} {f : Str} {v : V}, (fs.map (·.1)).Nodup → (fs.map (·.1))[i]? = some f → putF f v fs = fs.set i (f, v)
  | [], i, f, v, _, h => by simp at h
  | (k, x) :: fs, 0, f, v, nd, h => by
    simp at h
    subst h
    simp [putF]
  | (k, x) :: fs, i + 1, f, v, nd, h => by
    simp only [List.map_cons, List.getElem?_cons_succ] at h
    have nd' := List.nodup_cons.mp nd
    have ne : ¬ k = f := fun z => by
      subst z
      exact nd'.1 (List.mem_of_getElem? h)
    show (if k = f then _ else (k, x) :: putF f v fs) = _
    rw [if_neg ne, put_key nd'.2 h]
    rfl
theorem put_new : ∀ {fs : List (Str × V)} {f : Str} {v : V}, f ∉ fs.map (·.1) → putF f v fs = fs ++ [(f, v)]
  | [], f, v, _ => rfl
  | (k, x) :: fs, f, v, h => by
    have ne : ¬ k = f := fun z => h (by subst z; exact List.mem_cons_self)
    show (if k = f then _ else (k, x) :: putF f v fs) = _
    rw [if_neg ne, put_new fun z => h (List.mem_cons_of_mem _ z)]
    rfl
/-! ### the object -/
structure OA where
  p : Addr
  dx : Addr
  qs : List Addr
def OA.all (a : OA) : List Addr := a.p :: a.dx :: a.qs
/-- an object of the class named c, its fields in the order of nm -/
structure ObjAt (K : FR) (mg : Str → Option Value) (c : Str) (nm : List Str) (a : OA) (g : GO) (F H : Hp) (C : Addr) (fs : List (Str × V)) : Prop where
  cls : mg c = some (.ref C)
  ins : H a.p = some (.ins C a.dx fs)
  dic : H a.dx = some (.own a.p)
  key : fs.map (·.1) = nm.take g.length
  cnt : g.length ≤ nm.length
  val : FvsAt K F H a.qs (fs.map (·.2)) g
  nd : a.all.Nodup
  fn : ∀ b ∈ a.all, F b = none
section
variable {K : FR} {mg : Str → Option Value} {c : Str} {nm : List Str} {a : OA} {g : GO} {F H F' H' : Hp} {C : Addr} {fs : List (Str × V)}
theorem ObjAt.keep (o : ObjAt K mg c nm a g F H C fs) (ff : ∀ b u, F b = some u → F' b = some u) (hr : ∀ b ∈ a.all, F' b = none ∧ H' b = H b) : ObjAt K mg c nm a g F' H' C fs :=
  ⟨o.cls, (hr _ (by simp [OA.all])).2.trans o.ins, (hr _ (by simp [OA.all])).2.trans o.dic, o.key, o.cnt, o.val.mono ff fun b hb => (hr b (by simp [OA.all, hb])).2, o.nd, fun b hb => (hr b hb).1⟩
theorem FvsAt.at_ : ∀ {qs : List Addr} {vs : List V} {gs : List FV}, FvsAt K F H qs vs gs → ∀ b ∈ qs, H b ≠ none
  | _, _, _, .nil, _, hb => absurd hb List.not_mem_nil
  | _, _, _, .dat _ t, b, hb => t.at_ b hb
  | _, _, _, .own q _ t, b, hb => by
    rcases List.mem_cons.mp hb with rfl | hb
    · rw [q]; simp
    · exact t.at_ b hb
theorem ObjAt.off (o : ObjAt K mg c nm a g F H C fs) : ∀ b ∈ a.all, F b = none ∧ H b ≠ none := fun b hb => ⟨o.fn b hb, by
  simp only [OA.all, List.mem_cons] at hb
  rcases hb with rfl | rfl | hb
  · rw [o.ins]; simp
  · rw [o.dic]; simp
  · exact o.val.at_ b hb⟩
end
/-- the world of one object -/
@[reducible] def WO (K : FR) (mg : Str → Option Value) (c : Str) (nm : List Str) : Wld K where
  G := GO
  A := OA
  tok := fun a n => if n = 0 then some a.p else none
  reg := fun a b => b ∈ a.all
  at_ := fun a g F H => ∃ C fs, ObjAt K mg c nm a g F H C fs
  keep := fun {a g F H F' H'} h ff hr => let ⟨C, fs, o⟩ := h; ⟨C, fs, o.keep ff hr⟩
  off := fun {a g F H b} h r => let ⟨C, fs, o⟩ := h; o.off b r
/-! ### readings in the world of one object -/
structure ClsOk (K : FR) (mg : Str → Option Value) (c : Str) (nm : List Str) : Prop where
  cls : ∀ C, mg c = some (.ref C) → Cls K C ∧ ∀ f ∈ nm, NoAttr K C f
  nd : nm.Nodup
  le : nm.length < 1000
theorem self_of {r : Env} (h : isSelf r = true) : r[0]? = some (some (.tok 0)) := by
  unfold isSelf at h
  split at h
  · rename_i e
    exact e
  · cases h
theorem take_get {A : Type} {l : List A} {n i : Nat} (h : i < n) : (l.take n)[i]? = l[i]? := by rw [List.getElem?_take, if_pos h]
section
variable {K : FR} {mg mg' : Str → Option Value} {c : Str} {nm : List Str} {a a2 : OA} {g g2 : GO} {F H H2 : Hp} {C : Addr} {fs fs2 : List (Str × V)} {Wx : WX}
theorem ObjAt.flen (o : ObjAt K mg c nm a g F H C fs) : fs.length = g.length := by
  have := o.val.len
  rwa [List.length_map] at this
theorem ObjAt.look (o : ObjAt K mg c nm a g F H C fs) (nd : nm.Nodup) {i : Nat} {f : Str} (hf : nm[i]? = some f) (hi : i < g.length) : fs.lookup f = (fs.map (·.2))[i]? := by
  rw [look_key o.key (nd.sublist (List.take_sublist _ _)) (by rw [take_get hi]; exact hf), List.getElem?_map]
theorem ObjAt.nolook (o : ObjAt K mg c nm a g F H C fs) {m : Str} (hm : m ∉ nm) : fs.lookup m = none := look_no fun z => hm (List.mem_of_mem_take (by rw [o.key] at z; exact z))
theorem ObjAt.putKey (o : ObjAt K mg c nm a g F H C fs) (nd : nm.Nodup) {i : Nat} {f : Str} {v : V} (hf : nm[i]? = some f) : (i < g.length → putF f v fs = fs.set i (f, v)) ∧ (i = g.length → putF f v fs = fs ++ [(f, v)]) := by
  have nk : (fs.map (·.1)).Nodup := by rw [o.key]; exact nd.sublist (List.take_sublist _ _)
  refine ⟨fun hi => put_key nk (by rw [o.key, take_get hi]; exact hf), fun hi => put_new fun z => ?_⟩
  rw [o.key] at z
  obtain ⟨j, hj⟩ := List.mem_iff_getElem?.mp z
  have hjl := (List.getElem?_eq_some_iff.mp hj).1
  rw [List.length_take] at hjl
  rw [take_get (by omega)] at hj
  have e1 := (List.getElem?_eq_some_iff.mp hj)
  have e2 := (List.getElem?_eq_some_iff.mp hf)
  have : j = i := by
    refine Classical.byContradiction fun hne => ?_
    rcases Nat.lt_or_gt_of_ne hne with h | h
    · exact List.pairwise_iff_getElem.mp nd j i e1.1 e2.1 h (e1.2.trans e2.2.symm)
    · exact List.pairwise_iff_getElem.mp nd i j e2.1 e1.1 h (e2.2.trans e1.2.symm)
  omega
theorem ObjAt.nep (o : ObjAt K mg c nm a g F H C fs) : a.dx ≠ a.p ∧ a.p ∉ a.qs ∧ a.dx ∉ a.qs ∧ a.qs.Nodup := by
  have h := o.nd
  unfold OA.all at h
  rw [List.nodup_cons, List.nodup_cons] at h
  exact ⟨fun z => h.1 (by rw [← z]; exact List.mem_cons_self), fun z => h.1 (List.mem_cons_of_mem _ z), h.2.1, h.2.2⟩
/-- a field is set to data -/
theorem ObjAt.setD (o : ObjAt K mg c nm a g F H C fs) (nd : nm.Nodup) {i : Nat} {f : Str} (hf : nm[i]? = some f) {v : V} {d : PyData} (hv : Dp K F v d) (hs : setF i (.dat d) g = some g2) :
    ∃ a2 : OA, a2.p = a.p ∧ (∀ b ∈ a2.all, b ∈ a.all) ∧ ObjAt K mg c nm a2 g2 F (upd H a.p (.ins C a.dx (putF f v fs))) C (putF f v fs) := by
  obtain ⟨n1, n2, n3, n4⟩ := o.nep
  have hil := (List.getElem?_eq_some_iff.mp hf).1
  have hcnt := o.cnt
  have hfl := o.flen
  obtain ⟨k1, k2⟩ := o.putKey nd (v := v) hf
  unfold setF at hs
  by_cases hi : i < g.length
  · rw [if_pos hi] at hs
    cases hs
    obtain ⟨qs', sq, val⟩ := o.val.setD hv i
    refine ⟨⟨a.p, a.dx, qs'⟩, rfl, fun b hb => ?_, o.cls, upd_same, by rw [upd_ne n1]; exact o.dic, ?_, by simpa using hcnt, ?_, ?_, fun b hb => ?_⟩
    · simp only [OA.all, List.mem_cons] at hb ⊢
      exact hb.imp id (Or.imp id fun z => sq.subset z)
    · rw [k1 hi, List.map_set, o.key, List.length_set]
      refine List.ext_getElem? fun j => ?_
      rw [List.getElem?_set]
      split
      · rename_i e
        subst e
        rw [take_get hi, hf]
        split
        · rfl
        · rename_i z
          rw [List.length_take] at z
          omega
      · rfl
    · rw [k1 hi, List.map_set]
      exact val.mono (fun _ _ z => z) fun b hb => upd_ne fun z => by subst z; exact n2 (sq.subset hb)
    · simp only [OA.all]
      rw [List.nodup_cons, List.nodup_cons]
      refine ⟨fun z => ?_, fun z => n3 (sq.subset z), n4.sublist sq⟩
      rcases List.mem_cons.mp z with z | z
      · exact n1 z.symm
      · exact n2 (sq.subset z)
    · refine o.fn b ?_
      simp only [OA.all, List.mem_cons] at hb ⊢
      exact hb.imp id (Or.imp id fun z => sq.subset z)
  · rw [if_neg hi] at hs
    by_cases hi2 : i = g.length
    · rw [if_pos hi2] at hs
      cases hs
      refine ⟨a, rfl, fun b hb => hb, o.cls, upd_same, by rw [upd_ne n1]; exact o.dic, ?_, by simp; omega, ?_, o.nd, o.fn⟩
      · rw [k2 hi2, List.map_append, o.key, List.length_append, List.length_singleton, List.take_add_one, ← hi2, hf]
        rfl
      · rw [k2 hi2, List.map_append]
        exact (o.val.appD hv).mono (fun _ _ z => z) fun b hb => upd_ne fun z => by subst z; exact n2 hb
    · rw [if_neg hi2] at hs
      cases hs
/-- a field is set to a new list -/
theorem ObjAt.setO (o : ObjAt K mg c nm a g F H C fs) (nd : nm.Nodup) {i : Nat} {f : Str} (hf : nm[i]? = some f) {q : Addr} {xs : List V} {l : List PyData} (hq : H q = some (.lst xs)) (hd : DpAll K F xs l) (fq : F q = none) (nq : q ∉ a.all) (hs : setF i (.own l) g = some g2) :
    ∃ a2 : OA, a2.p = a.p ∧ (∀ b ∈ a2.all, b ∈ a.all ∨ b = q) ∧ ObjAt K mg c nm a2 g2 F (upd H a.p (.ins C a.dx (putF f (.ref q) fs))) C (putF f (.ref q) fs) := by
  obtain ⟨n1, n2, n3, n4⟩ := o.nep
  have hil := (List.getElem?_eq_some_iff.mp hf).1
  have hcnt := o.cnt
  have hfl := o.flen
  obtain ⟨k1, k2⟩ := o.putKey nd (v := .ref q) hf
  have q1 : q ≠ a.p := fun z => nq (by subst z; simp [OA.all])
  have q2 : q ≠ a.dx := fun z => nq (by subst z; simp [OA.all])
  have q3 : q ∉ a.qs := fun z => nq (by simp [OA.all, z])
  unfold setF at hs
  by_cases hi : i < g.length
  · rw [if_pos hi] at hs
    cases hs
    obtain ⟨qs', sq, nd', val⟩ := o.val.setO hq hd i hi q3 n4
    have mem : ∀ b ∈ (⟨a.p, a.dx, qs'⟩ : OA).all, b ∈ a.all ∨ b = q := fun b hb => by
      simp only [OA.all, List.mem_cons] at hb ⊢
      rcases hb with z | z | z
      · exact .inl (.inl z)
      · exact .inl (.inr (.inl z))
      · rcases sq b z with z | z
        · exact .inr z
        · exact .inl (.inr (.inr z))
    refine ⟨⟨a.p, a.dx, qs'⟩, rfl, mem, o.cls, upd_same, by rw [upd_ne n1]; exact o.dic, ?_, by simpa using hcnt, ?_, ?_, fun b hb => ?_⟩
    · rw [k1 hi, List.map_set, o.key, List.length_set]
      refine List.ext_getElem? fun j => ?_
      rw [List.getElem?_set]
      split
      · rename_i e
        subst e
        rw [take_get hi, hf]
        split
        · rfl
        · rename_i z
          rw [List.length_take] at z
          omega
      · rfl
    · rw [k1 hi, List.map_set]
      refine val.mono (fun _ _ z => z) fun b hb => upd_ne fun z => ?_
      subst z
      rcases sq _ hb with z | z
      · exact q1 z.symm
      · exact n2 z
    · simp only [OA.all]
      rw [List.nodup_cons, List.nodup_cons]
      refine ⟨fun z => ?_, fun z => ?_, nd'⟩
      · rcases List.mem_cons.mp z with z | z
        · exact n1 z.symm
        · rcases sq _ z with z | z
          · exact q1 z.symm
          · exact n2 z
      · rcases sq _ z with z | z
        · exact q2 z.symm
        · exact n3 z
    · rcases mem b hb with z | z
      · exact o.fn b z
      · rw [z]; exact fq
  · rw [if_neg hi] at hs
    by_cases hi2 : i = g.length
    · rw [if_pos hi2] at hs
      cases hs
      have mem : ∀ b ∈ (⟨a.p, a.dx, a.qs ++ [q]⟩ : OA).all, b ∈ a.all ∨ b = q := fun b hb => by
        simp only [OA.all, List.mem_cons, List.mem_append, List.not_mem_nil, or_false] at hb ⊢
        rcases hb with z | z | z | z
        · exact .inl (.inl z)
        · exact .inl (.inr (.inl z))
        · exact .inl (.inr (.inr z))
        · exact .inr z
      refine ⟨⟨a.p, a.dx, a.qs ++ [q]⟩, rfl, mem, o.cls, upd_same, by rw [upd_ne n1]; exact o.dic, ?_, by simp; omega, ?_, ?_, fun b hb => ?_⟩
      · rw [k2 hi2, List.map_append, o.key, List.length_append, List.length_singleton, List.take_add_one, ← hi2, hf]
        rfl
      · rw [k2 hi2, List.map_append]
        refine (o.val.appO hq hd).mono (fun _ _ z => z) fun b hb => upd_ne fun z => ?_
        subst z
        rcases List.mem_append.mp hb with z | z
        · exact n2 z
        · exact q1 (List.mem_singleton.mp z).symm
      · simp only [OA.all]
        rw [List.nodup_cons, List.nodup_cons, List.nodup_append]
        refine ⟨fun z => ?_, fun z => ?_, n4, by simp, fun x hx y hy e => ?_⟩
        · rcases List.mem_cons.mp z with z | z
          · exact n1 z.symm
          · rcases List.mem_append.mp z with z | z
            · exact n2 z
            · exact q1 (List.mem_singleton.mp z).symm
        · rcases List.mem_append.mp z with z | z
          · exact n3 z
          · exact q2 (List.mem_singleton.mp z).symm
        · rw [List.mem_singleton.mp hy] at e
          subst e
          exact q3 hx
      · rcases mem b hb with z | z
        · exact o.fn b z
        · rw [z]; exact fq
    · rw [if_neg hi2] at hs
      cases hs
/-- the object has become another one -/
theorem Rep.obj {a0 : OA} {F0 H0 : Hp} {s : L2.St} {r : Env} (rp : Rep (WO K mg c nm) a0 F0 H0 a g F H s r) (o2 : ObjAt K mg c nm a2 g2 F H2 C fs2) (hp : a2.p = a.p) (fa : ∀ b ∈ a.all, F b = none) (hH : ∀ b, b ∉ a.all → H2 b = H b)
    (hnew : ∀ b ∈ a2.all, b ∈ a.all ∨ (H0 b = none ∧ ∀ (j : Nat) (m : List PyData), r[j]? = some (some (.own m)) → s[j]? ≠ some (some (.ref b)))) (al : ∀ b, H b ≠ none → H2 b ≠ none) : Rep (WO K mg c nm) a0 F0 H0 a2 g2 F H2 s r := by
  refine ⟨⟨rp.ext.ff, fun b u z => ?_, fun b z f n => ?_, rp.ext.rg, fun b z => al b (rp.ext.al b z), fun i b z => ?_⟩, ⟨C, fs2, o2⟩, rp.len, fun i v h => ?_, rp.nol, rp.own⟩
  · have nb : b ∉ a.all := fun hb => by rw [fa b hb] at z; cases z
    rw [hH b nb]
    exact rp.ext.fh b u z
  · obtain ⟨z1, z2, z3⟩ := rp.ext.st b z f n
    refine ⟨z1, (hH b z3).trans z2, fun hb => ?_⟩
    rcases hnew b hb with hb | ⟨hb, _⟩
    · exact z3 hb
    · exact z hb
  · have z' := rp.ext.tk i b z
    simp only at z' ⊢
    split at z'
    · rename_i hi
      rw [if_pos hi, hp]
      exact z'
    · cases z'
  · obtain ⟨x, h1, h2⟩ := rp.slot i v h
    refine ⟨x, h1, ?_⟩
    cases v with
    | dat d => exact h2
    | tok n =>
      obtain ⟨p, h3, h4⟩ := h2
      refine ⟨p, ?_, h4⟩
      simp only at h3 ⊢
      split at h3
      · rename_i hi
        rw [if_pos hi, hp]
        exact h3
      · cases h3
    | lent m => exact absurd h (rp.nol i m)
    | own m =>
      obtain ⟨q, ys, eq, hq, hd, fq, rq⟩ := h2
      refine ⟨q, ys, eq, (hH q rq).trans hq, hd, fq, fun hb => ?_⟩
      rcases hnew q hb with hb | ⟨_, hb⟩
      · exact rq hb
      · subst eq
        exact hb i m h h1
abbrev cO (K : FR) (mg : Str → Option Value) (c : Str) (nm : List Str) (mg' : Str → Option Value) (Wx : WX) : Ctx K := ⟨WO K mg c nm, mg', Wx⟩
theorem so_fd {i : Nat} {f : Str} (T : ClsOk K mg c nm) (hf : nm[i]? = some f) : SoundE (cO K mg c nm mg' Wx) (tFld K (tVar 0) f) (sFd i) := by
  intro a0 F0 H0 a g F H s r Q rp post
  unfold sFd at post
  by_cases hs : isSelf r = true
  · rw [if_pos hs] at post
    obtain ⟨x, h1, p, h2, rfl⟩ := rp.slot 0 _ (self_of hs)
    have h2' : a.p = p := by simpa using h2
    subst h2'
    obtain ⟨C, fs, o⟩ := rp.at_
    cases hg : g[i]? with
    | none => rw [hg] at post; exact post.elim
    | some fv =>
      rw [hg] at post
      cases fv with
      | own l => exact post.elim
      | dat d =>
        obtain ⟨v, hv, hd⟩ := o.val.getD hg
        have hi := (List.getElem?_eq_some_iff.mp hg).1
        exact ⟨.ref a.p, h1, a.p, C, a.dx, fs, v, rfl, o.ins, (T.cls C o.cls).1, (T.cls C o.cls).2 f (List.mem_of_getElem? hf), (o.look T.nd hf hi).trans hv, post a F H v (Ext.refl rp.sub) rp.at_ hd True.intro⟩
  · rw [if_neg hs] at post; exact post.elim
theorem ss_fset {i : Nat} {f : Str} {te : TE} {me : ME GO} (T : ClsOk K mg c nm) (hf : nm[i]? = some f) (he : SoundE (cO K mg c nm mg' Wx) te me) : SoundS (cO K mg c nm mg' Wx) (L2.sFld K (tVar 0) te f) (sFset i me) := by
  intro a0 F0 H0 a g F H s r D rp post
  unfold sFset at post
  by_cases hs : isSelf r = true
  · rw [if_pos hs] at post
    refine he _ _ _ _ _ _ _ _ _ _ rp (so_out (c := cO K mg c nm mg' Wx) (o := .no) rp post fun v g' a' F' H' y hx e rp' iv n po => ?_)
    obtain ⟨x, h1, p, h2, rfl⟩ := rp'.slot 0 _ (self_of hs)
    have h2' : a'.p = p := by simpa using h2
    subst h2'
    obtain ⟨C, fs, o⟩ := rp'.at_
    have lt : fs.length < 1000 := by rw [o.flen]; exact Nat.lt_of_le_of_lt o.cnt T.le
    have pre : ∀ v : V, D.nx s (upd H' a'.p (.ins C a'.dx (putF f v fs))) → ∃ a C dx fs, V.ref a'.p = .ref a ∧ H' a = some (.ins C dx fs) ∧ Cls K C ∧ NoAttr K C f ∧ fs.length < 1000 ∧ D.nx s (upd H' a (.ins C dx (putF f v fs))) := fun v h =>
      ⟨a'.p, C, a'.dx, fs, rfl, o.ins, (T.cls C o.cls).1, (T.cls C o.cls).2 f (List.mem_of_getElem? hf), lt, h⟩
    refine ⟨.ref a'.p, h1, pre y ?_⟩
    have np : ∀ b, b ∉ a'.all → upd H' a'.p (.ins C a'.dx (putF f y fs)) b = H' b := fun b hb => upd_ne fun z => by subst z; exact hb (by simp [OA.all])
    have al : ∀ b, H' b ≠ none → upd H' a'.p (.ins C a'.dx (putF f y fs)) b ≠ none := fun b z => by
      by_cases eb : b = a'.p
      · subst eb; rw [upd_same]; simp
      · rw [upd_ne eb]; exact z
    cases v with
    | dat d =>
      simp only at po
      cases hset : setF i (.dat d) g' with
      | none => rw [hset] at po; exact po.elim
      | some g2 =>
        rw [hset] at po
        obtain ⟨a2, e1, e2, o2⟩ := o.setD T.nd hf iv hset
        exact po a2 _ _ s (rp'.obj o2 e1 o.fn np (fun b hb => .inl (e2 b hb)) al) fun _ _ z => z
    | own l =>
      simp only at po
      cases hset : setF i (.own l) g' with
      | none => rw [hset] at po; exact po.elim
      | some g2 =>
        rw [hset] at po
        obtain ⟨q, hq0, hq1, hq2⟩ := NewTo.of rp e n
        obtain ⟨q', xs, rfl, hq, hd, fq, rq⟩ := iv
        cases hq0
        obtain ⟨a2, e1, e2, o2⟩ := o.setO T.nd hf hq hd fq rq hset
        refine po a2 _ _ s (rp'.obj o2 e1 o.fn np (fun b hb => ?_) al) fun _ _ z => z
        rcases e2 b hb with z | z
        · exact .inl z
        · rw [z]; exact .inr ⟨hq1, hq2⟩
    | tok k => exact po.elim
    | lent l => exact po.elim
  · rw [if_neg hs] at post; exact post.elim
end
end CW
/-! CwObj2: methods are called; objects behind another world. -/
namespace CW
open PySem PySem.Spec PyProof.Rows L2
/-! ### a part that asks nothing of the world -/
theorem noTok_len : ∀ r : Env, (noTok r).length = r.length
  | [] => rfl
  | none :: r => by simp [noTok, noTok_len r]
  | some (.dat d) :: r => by simp [noTok, noTok_len r]
  | some (.tok d) :: r => by simp [noTok, noTok_len r]
  | some (.own d) :: r => by simp [noTok, noTok_len r]
  | some (.lent d) :: r => by simp [noTok, noTok_len r]
theorem noTok_get : ∀ {r : Env} {i : Nat} {v : Vl}, (noTok r)[i]? = some (some v) → ∃ d, v = .dat d ∧ r[i]? = some (some (.dat d))
  | [], _, _, h => by simp [noTok] at h
  | none :: r, 0, _, h => by simp [noTok] at h
  | some (.dat d) :: r, 0, _, h => by simp [noTok] at h; exact ⟨d, h.symm, by simp⟩
  | some (.tok d) :: r, 0, _, h => by simp [noTok] at h
  | some (.own d) :: r, 0, _, h => by simp [noTok] at h
  | some (.lent d) :: r, 0, _, h => by simp [noTok] at h
  | none :: r, i + 1, v, h => by
    obtain ⟨d, e, z⟩ := noTok_get (r := r) (i := i) (v := v) (by simpa [noTok] using h)
    exact ⟨d, e, by simpa using z⟩
  | some (.dat d') :: r, i + 1, v, h => by
    obtain ⟨d, e, z⟩ := noTok_get (r := r) (i := i) (v := v) (by simpa [noTok] using h)
    exact ⟨d, e, by simpa using z⟩
  | some (.tok d') :: r, i + 1, v, h => by
    obtain ⟨d, e, z⟩ := noTok_get (r := r) (i := i) (v := v) (by simpa [noTok] using h)
    exact ⟨d, e, by simpa using z⟩
  | some (.own d') :: r, i + 1, v, h => by
    obtain ⟨d, e, z⟩ := noTok_get (r := r) (i := i) (v := v) (by simpa [noTok] using h)
    exact ⟨d, e, by simpa using z⟩
  | some (.lent d') :: r, i + 1, v, h => by
    obtain ⟨d, e, z⟩ := noTok_get (r := r) (i := i) (v := v) (by simpa [noTok] using h)
    exact ⟨d, e, by simpa using z⟩
section
variable {K : FR} {W : Wld K} {a0 a : W.A} {g : W.G} {F0 H0 F H : Hp} {s : L2.St} {r : Env}
theorem Rep.plain (rp : Rep W a0 F0 H0 a g F H s r) : Rep (WU K) () F H () () F H s (noTok r) := by
  refine ⟨Ext.refl rp.ext.fh, True.intro, by rw [noTok_len]; exact rp.len, fun i v h => ?_, fun i l h => ?_, fun i l p h => ?_⟩
  · obtain ⟨d, rfl, z⟩ := noTok_get h
    obtain ⟨x, h1, h2⟩ := rp.slot i _ z
    exact ⟨x, h1, h2⟩
  · obtain ⟨d, e, z⟩ := noTok_get h
    cases e
  · obtain ⟨d, e, z⟩ := noTok_get h
    cases e
end
theorem PExt.ofU {K : FR} {F H F' H' : Hp} {u u' : Unit} (e : Ext (WU K) u F H u' F' H') : PExt F H F' H' := ⟨e.ff, e.fh, fun b z f => let ⟨x, y, _⟩ := e.st b z f (fun q => q.elim); ⟨x, y⟩⟩
section
variable {K : FR} {mg mg' : Str → Option Value} {c : Str} {nm : List Str} {Wx : WX}
theorem ss_fapp {i : Nat} {f : Str} {te : TE} {me : ME Unit} (T : ClsOk K mg c nm) (hf : nm[i]? = some f) (he : SoundE (⟨WU K, mg', fun _ _ _ _ => False⟩ : Ctx K) te me) :
    SoundS (cO K mg c nm mg' Wx) (tDrop (tBM K "list" rAppend (tFld K (tVar 0) f) (tCons te tNil))) (sFapp i me) := by
  intro a0 F0 H0 a g F H s r D rp post
  unfold sFapp at post
  by_cases hs : isSelf r = true
  · rw [if_pos hs] at post
    cases hg : g[i]? with
    | none => rw [hg] at post; exact post.elim
    | some fv =>
      rw [hg] at post
      cases fv with
      | dat d => exact post.elim
      | own l =>
        simp only at post
        cases hm : me (noTok r) () with
        | no => rw [hm] at post; exact post.elim
        | er e u => rw [hm] at post; exact post.elim
        | ok v u =>
          rw [hm] at post
          simp only at post
          cases hv : v.frz with
          | none => rw [hv] at post; exact post.elim
          | some d =>
            rw [hv] at post
            simp only at post
            by_cases hl : l.length < 100000
            · rw [if_pos hl] at post
              obtain ⟨x, h1, p, h2, rfl⟩ := rp.slot 0 _ (self_of hs)
              have h2' : a.p = p := by simpa using h2
              subst h2'
              obtain ⟨C, fs, o⟩ := rp.at_
              obtain ⟨q, xs, hq, hqm, hH, hd⟩ := o.val.getO hg
              have hi := (List.getElem?_eq_some_iff.mp hg).1
              obtain ⟨n1, n2, n3, n4⟩ := o.nep
              refine ⟨.ref a.p, h1, a.p, C, a.dx, fs, .ref q, rfl, o.ins, (T.cls C o.cls).1, (T.cls C o.cls).2 f (List.mem_of_getElem? hf), (o.look T.nd hf hi).trans hq, .inl ⟨rfl, xs, SqL.of hH⟩, ?_⟩
              refine he _ _ _ _ _ _ _ _ _ _ rp.plain ?_
              rw [hm]
              intro u' F' H' y e t iv n
              have hz := frz_dp (c := (⟨WU K, mg', fun _ _ _ _ => False⟩ : Ctx K)) (H := H) iv n hv
              have pe2 := PExt.ofU (letGo_ext (c := (⟨WU K, mg', fun _ _ _ _ => False⟩ : Ctx K)) e)
              have rp2 := rp.step (Ext.of rp.sub pe2) (at_of rp.at_ pe2)
              have hst : ∀ b ∈ a.all, _ ∧ H' b = H b := fun b hb => pe2.st b (o.off b hb).2 (o.off b hb).1
              have o2 := o.keep pe2.ff hst
              have qall : q ∈ a.all := by simp [OA.all, hqm]
              have hH2 : H' q = some (.lst xs) := (hst q qall).2.trans hH
              have qp : a.p ≠ q := fun z => n2 (by rw [z]; exact hqm)
              have qd : a.dx ≠ q := fun z => n3 (by rw [z]; exact hqm)
              refine ⟨q, xs, y, rfl, rfl, hH2, line_lt (by rw [dps_len hd]; exact hl), ?_⟩
              have o3 : ObjAt K mg c nm a (g.set i (.own (l ++ [d]))) (letGo (fun _ => False) H F' H') (upd H' q (.lst (xs ++ [y]))) C fs :=
                ⟨o.cls, by rw [upd_ne qp]; exact o2.ins, by rw [upd_ne qd]; exact o2.dic, by rw [List.length_set]; exact o.key, by rw [List.length_set]; exact o.cnt,
                  o2.val.chg (dps_app (dps_mono pe2.ff _ hd) (.cons hz .nil)) i n4 hq hqm ⟨l, hg⟩, o.nd, o2.fn⟩
              exact post a _ _ s (rp2.obj o3 rfl o2.fn (fun b hb => upd_ne fun z => by subst z; exact hb qall) (fun b hb => .inl hb) (fun b z => by
                by_cases eb : b = q
                · subst eb; rw [upd_same]; simp
                · rw [upd_ne eb]; exact z)) pe2.ff
            · rw [if_neg hl] at post; exact post.elim
  · rw [if_neg hs] at post; exact post.elim
end
/-! ### o.m(..) -/
/-- m is a method of the class named c that keeps sp -/
def HasM (P : Program) (w : World) (K : FR) (mg : Str → Option Value) (base : Heap) (k : Nat) (c m : Str) (ps : List Str) (sp : Sp) : Prop :=
  ∃ C f fd, mg c = some (.ref C) ∧ Cls K C ∧ Meth K C m f ∧ FnOk P w K mg base (L2.CX P w) k f fd ps sp ∧ Binds K fd ps []
def tMethC (mg : Str → Option Value) (c m : Str) (sp : Sp) (E : L2.St → XK) (ta : TE) (t : TA) : TE := fun σ H Q => ta σ H fun x H1 => ∃ a C dx fs, x = .ref a ∧ mg c = some (.ref C) ∧ H1 a = some (.ins C dx fs) ∧ fs.lookup m = none ∧ t σ H1 fun vs H2 => sp (x :: vs) H2 Q (E σ)
section
variable {X : Cx} {j k : Nat} {ps : List Str} {sp : Sp} {c m : Str} {apos pos : Pos} {o e : Expr} {es : List Expr} {ta : TE} {t : TA} {W : WX}
theorem pe_methC {pl : Sem Bool} (h : HasM X.prog X.w X.K X.mg X.base j c m ps sp) (hr : Room k X.A) (hj : j ≤ k) (tk : Takes X W) (he : PE X o ta) (ha : PA X (e :: es) t)
    (hst : starEach (e :: es) X.env = (false, eval e X.env) :: starEach es X.env := by rfl) (hpl : (backTo pos (starEach es X.env)).any (·.1) = false := by rfl)
    (ht : eval (.Call (.Attribute o m apos) (e :: es) [] pos) X.env = (do
      let ov ← eval o X.env
      standAt apos.atName
      let (f, first) ← holding [ov] (getMethod ov m pl)
      callWith pos f first (backTo pos (starEach (e :: es) X.env)) (backToKw pos (keywordEach [] X.env))) := by rfl) :
    PE X (.Call (.Attribute o m apos) (e :: es) [] pos) (tMethC X.mg c m sp (fun s => WE W s) ta t) := by
  obtain ⟨C, f, fd, hC, cl, hm, F, hb⟩ := h
  refine ⟨fun pins s σ H Q I h => ?_⟩
  refine PySem.W.methodCall_KW (pl := pl) (thn (he.run pins s σ H _ I h) fun u s1 ⟨x, H1, I1, rx, a, C', dx, fs, ex, hC', ea, l, q⟩ => ?_) ht
  subst ex
  obtain rfl : u = Value.ref a := rx
  rw [hC] at hC'
  cases hC'
  refine getmeth_ok I1 ea cl hm l ?_
  refine PySem.W.callWith_K (first := [.ref a]) (h₀ := X.base) I.ok.mod.kin hm.kp (thn (ha.run pos pins s1 σ H1 _ I1 q) fun us s2 ⟨vs, H2, I2, r, q2⟩ => ⟨I2.kIn, ?_⟩) hst hpl
  exact run_fnSD (dvs := []) (ds := []) (E := fun s => WE W s) (us := .ref a :: us) (vs := .ref a :: vs) (F.mono hj |> fun F => F) hr hb .nil (passAt tk σ) I2 (.cons rfl r) (by rw [List.append_nil]; exact q2)
theorem pe_methC0 {pl : Sem Bool} (h : HasM X.prog X.w X.K X.mg X.base j c m ps sp) (hr : Room k X.A) (hj : j ≤ k) (tk : Takes X W) (he : PE X o ta)
    (ht : eval (.Call (.Attribute o m apos) [] [] pos) X.env = (do
      let ov ← eval o X.env
      standAt apos.atName
      let (f, first) ← holding [ov] (getMethod ov m pl)
      callWith pos f first (backTo pos (starEach [] X.env)) (backToKw pos (keywordEach [] X.env))) := by rfl) :
    PE X (.Call (.Attribute o m apos) [] [] pos) (tMethC X.mg c m sp (fun s => WE W s) ta tNil) := by
  obtain ⟨C, f, fd, hC, cl, hm, F, hb⟩ := h
  refine ⟨fun pins s σ H Q I h => ?_⟩
  refine PySem.W.methodCall_KW (pl := pl) (thn (he.run pins s σ H _ I h) fun u s1 ⟨x, H1, I1, rx, a, C', dx, fs, ex, hC', ea, l, q⟩ => ?_) ht
  subst ex
  obtain rfl : u = Value.ref a := rx
  rw [hC] at hC'
  cases hC'
  refine getmeth_ok I1 ea cl hm l ?_
  exact PySem.W.callWith_K0 (first := [.ref a]) I1.kIn hm.kp (run_fnSD (dvs := []) (ds := []) (E := fun s => WE W s) (us := [.ref a]) (vs := [.ref a]) (F.mono hj |> fun F => F) hr hb .nil (passAt tk σ) I1 (.cons rfl .nil) q)
end
/-- C(..) of a class of the module -/
def HasC (P : Program) (w : World) (K : FR) (mg : Str → Option Value) (base : Heap) (k : Nat) (c : Str) (ps : List Str) (sp : Sp) : Prop :=
  ∃ C f fd, mg c = some (.ref C) ∧ Mk K C f ∧ FnOk P w K mg base (L2.CX P w) k f fd ps sp ∧ Binds K fd ps []
theorem HasC.mg {P : Program} {w : World} {K : FR} {mg : Str → Option Value} {base : Heap} {k : Nat} {c : Str} {ps : List Str} {sp : Sp} (h : HasC P w K mg base k c ps sp) : ∃ C, mg c = some (.ref C) := let ⟨C, _, _, e, _⟩ := h; ⟨C, e⟩
def tMakeC (mg : Str → Option Value) (c : Str) (sp : Sp) (t : TA) : TE := fun σ H Q => ∃ C, mg c = some (.ref C) ∧ tMake C sp [] (fun _ _ _ => False) t σ H Q
section
variable {X : Cx} {j k : Nat} {ps : List Str} {sp : Sp} {x : Str} {p pos : Pos} {e : Expr} {es : List Expr} {t : TA} {W : WX}
theorem pe_makeC (h : HasC X.prog X.w X.K X.mg X.base j x ps sp) (hr : Room k X.A) (hj : j + 1 ≤ k) (tk : Takes X W) (hg : Gl X x)
    (ha : PA X (e :: es) t) (hdb : (x == ("__debug__" : Str)) = false := by decide) (he : starEach (e :: es) X.env = (false, eval e X.env) :: starEach es X.env := by rfl) (hpl : (backTo pos (starEach es X.env)).any (·.1) = false := by rfl) :
    PE X (.Call (.Name x p) (e :: es) [] pos) (tMakeC X.mg x sp t) := by
  obtain ⟨C, f, fd, hC, M, F, hb⟩ := h
  refine ⟨fun pins s σ H Q I h => ?_⟩
  obtain ⟨C', hC', h⟩ := h
  rw [hC] at hC'
  cases hC'
  exact (pe_make (dvs := []) (ds := []) (E := fun _ _ _ => False) M F (hr.mono hj) hg hC hb .nil (passes_call tk fun _ _ _ _ z => z.elim) ha hdb he hpl).run pins s σ H Q I h
end
section
variable {K : FR} {mg mg' : Str → Option Value} {c : Str} {nm : List Str} {Wx : WX}
theorem so_callM {n : Nat} {m : Str} {f : List PyData → GO → R Vl GO} {ta : TA} {ma : MA GO} (hn : ∀ ds g, ds.length + 1 ≠ n → f ds g = .no) (hm : m ∉ nm) (ha : SoundA (cO K mg c nm mg Wx) ta ma) :
    SoundE (cO K mg c nm mg Wx) (tMethC mg c m (spT (WO K mg c nm) mg 0 n f) (fun s => WE Wx s) (tVar 0) ta) (sCallM f ma) := by
  intro a0 F0 H0 a g F H s r Q rp post
  unfold sCallM at post
  by_cases hs : isSelf r = true
  · rw [if_pos hs] at post
    obtain ⟨x, h1, p, h2, rfl⟩ := rp.slot 0 _ (self_of hs)
    have h2' : a.p = p := by simpa using h2
    subst h2'
    obtain ⟨C, fs, o⟩ := rp.at_
    refine ⟨.ref a.p, h1, a.p, C, a.dx, fs, rfl, o.cls, o.ins, o.nolook hm, ?_⟩
    refine ha _ _ _ _ _ _ _ _ _ _ rp ?_
    cases h : ma r g with
    | no => rw [h] at post; exact post
    | er e g1 => rw [h] at post; exact post
    | ok vs g1 =>
      rw [h] at post
      simp only [R.bind_ok] at post
      intro a1 F1 H1 xs e1 t1 i1
      cases h2 : frzAll vs with
      | none => rw [h2] at post; exact post.elim
      | some ds =>
        rw [h2] at post
        simp only at post
        have hd := frz_dps (c := cO K mg c nm mg Wx) i1 h2
        have e2 := letGo_ext (c := cO K mg c nm mg Wx) e1
        have t2 := letGo_at (c := cO K mg c nm mg Wx) e1 t1
        have hp : (WO K mg c nm).tok a1 0 = some a.p := e1.tk 0 a.p (by simp)
        refine ⟨?_, a1, g1, _, a.p, xs, ds, rfl, hp, e2.fh, t2, hd, ?_⟩
        · rw [List.length_cons, dps_len hd]
          refine Classical.byContradiction fun z => ?_
          rw [hn ds g1 z] at post
          exact post
        · cases hf : f ds g1 with
          | no => rw [hf] at post; exact post.elim
          | er e g2 =>
            rw [hf] at post
            exact fun a' F' H' C d e3 t3 i => post a' F' H' C d (e2.trans e3) t3 i
          | ok v g2 =>
            rw [hf] at post
            exact fun a' F' H' x e3 t3 i n3 => post a' F' H' x (e2.trans e3) t3 i (n3.back e2.al)
  · rw [if_neg hs] at post; exact post.elim
/-! ### objects behind another world -/
@[reducible] def WM (K : FR) (mg : Str → Option Value) (c : Str) (nm : List Str) (W0 : Wld K) : Wld K where
  G := W0.G × List GO
  A := W0.A × List OA
  tok := fun a n => match n with
    | 0 => W0.tok a.1 0
    | 1 => W0.tok a.1 1
    | n + 2 => (a.2[n]?).map OA.p
  reg := fun a b => W0.reg a.1 b ∨ ∃ o ∈ a.2, b ∈ o.all
  at_ := fun a g F H => W0.at_ a.1 g.1 F H ∧ a.2.length = g.2.length ∧ (∀ (i : Nat) (o : OA) (fv : GO), a.2[i]? = some o → g.2[i]? = some fv → ∃ C fs, ObjAt K mg c nm o fv F H C fs) ∧
    (∀ (i j : Nat) (oi oj : OA), i ≠ j → a.2[i]? = some oi → a.2[j]? = some oj → ∀ b ∈ oi.all, b ∉ oj.all) ∧ ∀ o ∈ a.2, ∀ b ∈ o.all, ¬ W0.reg a.1 b
  keep := fun {a g F H F' H'} h ff hr => by
    obtain ⟨h1, h2, h3, h4, h5⟩ := h
    refine ⟨W0.keep h1 ff fun b z => hr b (.inl z), h2, fun i o fv hi hg => ?_, h4, h5⟩
    obtain ⟨C, fs, ob⟩ := h3 i o fv hi hg
    exact ⟨C, fs, ob.keep ff fun b hb => hr b (.inr ⟨o, List.mem_of_getElem? hi, hb⟩)⟩
  off := fun {a g F H b} h r => by
    obtain ⟨h1, h2, h3, h4, h5⟩ := h
    rcases r with r | ⟨o, ho, hb⟩
    · exact W0.off h1 r
    · obtain ⟨i, hi⟩ := List.mem_iff_getElem?.mp ho
      have hl := (List.getElem?_eq_some_iff.mp hi).1
      obtain ⟨C, fs, ob⟩ := h3 i o _ hi (List.getElem?_eq_getElem (by omega))
      exact ob.off b hb
/-- fields let go -/
theorem FvsAt.frz {F H F2 : Hp} (ff : ∀ b o, F b = some o → F2 b = some o) : ∀ {qs : List Addr} {vs : List V} {gs : List FV}, FvsAt K F H qs vs gs → (∀ b ∈ qs, F2 b = H b) → FvsAt K F2 H [] vs ((frzG gs).map FV.dat)
  | _, _, _, .nil, _ => .nil
  | _, _, _, .dat d t, h => .dat (dp_mono ff _ d) (t.frz ff h)
  | _, _, _, .own q d t, h => .dat (.lst (Rd.of ((h _ List.mem_cons_self).trans q)) (dps_mono ff _ d)) (t.frz ff fun b hb => h b (List.mem_cons_of_mem _ hb))
theorem frzG_len : ∀ g : GO, ((frzG g).map FV.dat).length = g.length
  | [] => rfl
  | .dat d :: g => by simpa [frzG] using frzG_len g
  | .own d :: g => by simpa [frzG] using frzG_len g
theorem ObjAt.frz {a : OA} {g : GO} {F H : Hp} {C : Addr} {fs : List (Str × V)} (o : ObjAt K mg c nm a g F H C fs) : ∃ F2 : Hp, (∀ b u, F b = some u → F2 b = some u) ∧ (∀ b, b ∉ a.qs → F2 b = F b) ∧ (∀ b ∈ a.qs, F2 b = H b) ∧
    ObjAt K mg c nm ⟨a.p, a.dx, []⟩ ((frzG g).map FV.dat) F2 H C fs := by
  classical
  obtain ⟨n1, n2, n3, n4⟩ := o.nep
  have ff : ∀ b u, F b = some u → (if b ∈ a.qs then H b else F b) = some u := fun b u z => by
    by_cases hb : b ∈ a.qs
    · have := o.fn b (by simp [OA.all, hb])
      rw [this] at z
      cases z
    · rw [if_neg hb]; exact z
  refine ⟨fun b => if b ∈ a.qs then H b else F b, ff, fun b hb => if_neg hb, fun b hb => if_pos hb, o.cls, o.ins, o.dic, by rw [frzG_len]; exact o.key, by rw [frzG_len]; exact o.cnt, o.val.frz ff (fun b hb => if_pos hb), ?_, fun b hb => ?_⟩
  · simp only [OA.all]
    simp [n1.symm]
  · simp only [OA.all, List.mem_cons, List.not_mem_nil, or_false] at hb
    have hq : b ∉ a.qs := by
      rcases hb with rfl | rfl
      · exact n2
      · exact n3
    show (if b ∈ a.qs then H b else F b) = none
    rw [if_neg hq]
    refine o.fn b ?_
    simp only [OA.all, List.mem_cons]
    rcases hb with z | z
    · exact .inl z
    · exact .inr (.inl z)

abbrev cM (K : FR) (mg : Str → Option Value) (c : Str) (nm : List Str) (W0 : Wld K) (Wx : WX) : Ctx K := ⟨WM K mg c nm W0, mg, Wx⟩
section
variable {W0 : Wld K} {a1 : (WM K mg c nm W0).A} {g1 : (WM K mg c nm W0).G} {F2 H1 F' H' F3 : Hp}
theorem get_app {A : Type} {l : List A} {x y : A} {i : Nat} (h : (l ++ [x])[i]? = some y) : l[i]? = some y ∨ (i = l.length ∧ y = x) := by
  rcases Nat.lt_or_ge i l.length with z | z
  · rw [List.getElem?_append_left z] at h
    exact .inl h
  · rw [List.getElem?_append_right z] at h
    have : i - l.length = 0 := by
      have := (List.getElem?_eq_some_iff.mp h).1
      simp at this
      omega
    rw [this] at h
    simp at h
    exact .inr ⟨by omega, h.symm⟩
/-- an object is made behind the world -/
theorem made_new {x dx : Addr} {C : Addr} {o3 : GO} {a' a3 : OA} (sub : ∀ b o, F2 b = some o → H1 b = some o) (t : (WM K mg c nm W0).at_ a1 g1 F2 H1) (nx : H1 x = none) (nd : H1 dx = none)
    (e : Ext (WO K mg c nm) ⟨x, dx, []⟩ F2 (upd (upd H1 dx (.own x)) x (.ins C dx [])) a' F' H') (ff : ∀ b o, F' b = some o → F3 b = some o) (fh : ∀ b o, F3 b = some o → H' b = some o) (fo : ∀ b, b ∉ a'.all → F3 b = F' b) (qs : ∀ b ∈ a3.all, b ∈ a'.all)
    {C' : Addr} {fs : List (Str × V)} (ob : ObjAt K mg c nm a3 o3 F3 H' C' fs) :
    Ext (WM K mg c nm W0) a1 F2 H1 (a1.1, a1.2 ++ [a3]) F3 H' ∧ (WM K mg c nm W0).at_ (a1.1, a1.2 ++ [a3]) (g1.1, g1.2 ++ [o3]) F3 H' := by
  have old : ∀ b, H1 b ≠ none → F2 b = none → F' b = none ∧ H' b = H1 b ∧ b ∉ a'.all := fun b z f => by
    have bx : b ≠ x := fun q => by subst q; exact z nx
    have bd : b ≠ dx := fun q => by subst q; exact z nd
    have eb : upd (upd H1 dx (.own x)) x (.ins C dx []) b = H1 b := by rw [upd_ne bx, upd_ne bd]
    have := e.st b (by rw [eb]; exact z) f (by simp [OA.all, bx, bd])
    exact ⟨this.1, this.2.1.trans eb, this.2.2⟩
  have old3 : ∀ b, H1 b ≠ none → F2 b = none → F3 b = none ∧ H' b = H1 b ∧ b ∉ a3.all := fun b z f => by
    obtain ⟨p1, p2, p3⟩ := old b z f
    exact ⟨(fo b p3).trans p1, p2, fun q => p3 (qs b q)⟩
  have reg : ∀ b, (WM K mg c nm W0).reg a1 b → F3 b = none ∧ H' b = H1 b ∧ b ∉ a3.all := fun b r => by
    obtain ⟨f, n⟩ := (WM K mg c nm W0).off t r
    exact old3 b n f
  refine ⟨⟨fun b o z => ff b o (e.ff b o z), fh, fun b z f r => ?_, fun b z f r => (reg b r).1, fun b z => ?_, fun i b z => ?_⟩, ?_, ?_, fun i o fv hi hg => ?_, fun i j oi oj ne hi hj b hb hb' => ?_, fun o ho b hb r => ?_⟩
  · obtain ⟨p1, p2, p3⟩ := old3 b z f
    refine ⟨p1, p2, fun q => ?_⟩
    rcases q with q | ⟨o, ho, hb⟩
    · exact r (.inl q)
    · rcases List.mem_append.mp ho with ho | ho
      · exact r (.inr ⟨o, ho, hb⟩)
      · rw [List.mem_singleton.mp ho] at hb
        exact p3 hb
  · cases f : F2 b with
    | none => rw [(old b z f).2.1]; exact z
    | some o => rw [e.fh b o (e.ff b o f)]; simp
  · match i, z with
    | 0, z => exact z
    | 1, z => exact z
    | n + 2, z =>
      have z' : (a1.2[n]?).map OA.p = some b := z
      show ((a1.2 ++ [a3])[n]?).map OA.p = some b
      cases h : a1.2[n]? with
      | none => rw [h] at z'; cases z'
      | some o => rw [List.getElem?_append_left (List.getElem?_eq_some_iff.mp h).1]; exact z'
  · exact W0.keep t.1 (fun b o z => ff b o (e.ff b o z)) fun b z => let ⟨p1, p2, _⟩ := reg b (.inl z); ⟨p1, p2⟩
  · show (a1.2 ++ [a3]).length = (g1.2 ++ [o3]).length
    rw [List.length_append, List.length_append, t.2.1]
    rfl
  · rcases get_app hi with hi | ⟨hi, rfl⟩
    · have hl := (List.getElem?_eq_some_iff.mp hi).1
      have hl2 := t.2.1
      rw [List.getElem?_append_left (by omega)] at hg
      obtain ⟨C2, fs2, ob2⟩ := t.2.2.1 i o fv hi hg
      exact ⟨C2, fs2, ob2.keep (fun b o z => ff b o (e.ff b o z)) fun b hb => let ⟨p1, p2, _⟩ := reg b (.inr ⟨o, List.mem_of_getElem? hi, hb⟩); ⟨p1, p2⟩⟩
    · rcases get_app hg with hg | ⟨_, rfl⟩
      · have := (List.getElem?_eq_some_iff.mp hg).1
        have hl2 := t.2.1
        omega
      · exact ⟨_, _, ob⟩
  · rcases get_app hi with hi2 | ⟨hi2, ei⟩
    · rcases get_app hj with hj2 | ⟨hj2, ej⟩
      · exact t.2.2.2.1 i j oi oj ne hi2 hj2 b hb hb'
      · exact (reg b (.inr ⟨oi, List.mem_of_getElem? hi2, hb⟩)).2.2 (ej ▸ hb')
    · rcases get_app hj with hj2 | ⟨hj2, ej⟩
      · exact (reg b (.inr ⟨oj, List.mem_of_getElem? hj2, hb'⟩)).2.2 (ei ▸ hb)
      · omega
  · rcases List.mem_append.mp ho with ho | ho
    · exact t.2.2.2.2 o ho b hb r
    · rw [List.mem_singleton.mp ho] at hb
      exact (reg b (.inl r)).2.2 hb
/-- an object behind the world has become another one -/
theorem made_chg {n : Nat} {oa a' : OA} {o' : GO} (sub : ∀ b o, F2 b = some o → H1 b = some o) (t : (WM K mg c nm W0).at_ a1 g1 F2 H1) (hn : a1.2[n]? = some oa) (e : Ext (WO K mg c nm) oa F2 H1 a' F' H')
    {C' : Addr} {fs : List (Str × V)} (ob : ObjAt K mg c nm a' o' F' H' C' fs) :
    Ext (WM K mg c nm W0) a1 F2 H1 (a1.1, a1.2.set n a') F' H' ∧ (WM K mg c nm W0).at_ (a1.1, a1.2.set n a') (g1.1, g1.2.set n o') F' H' := by
  have hl := (List.getElem?_eq_some_iff.mp hn).1
  have hp : a'.p = oa.p := by
    have := e.tk 0 oa.p (by simp)
    simpa using this
  have mem : ∀ o ∈ a1.2.set n a', o ∈ a1.2 ∨ o = a' := fun o ho => List.mem_or_eq_of_mem_set ho
  have reg : ∀ b, (WM K mg c nm W0).reg a1 b → b ∉ oa.all → F' b = none ∧ H' b = H1 b ∧ b ∉ a'.all := fun b r no => by
    obtain ⟨f, z⟩ := (WM K mg c nm W0).off t r
    exact e.st b z f no
  have w0 : ∀ b, W0.reg a1.1 b → F' b = none ∧ H' b = H1 b ∧ b ∉ a'.all := fun b r => reg b (.inl r) fun z => t.2.2.2.2 oa (List.mem_of_getElem? hn) b z r
  have oth : ∀ (i : Nat) (o : OA), i ≠ n → a1.2[i]? = some o → ∀ b ∈ o.all, F' b = none ∧ H' b = H1 b ∧ b ∉ a'.all := fun i o ne hi b hb => reg b (.inr ⟨o, List.mem_of_getElem? hi, hb⟩) (t.2.2.2.1 i n o oa ne hi hn b hb)
  have get : ∀ (i : Nat) (o : OA), (a1.2.set n a')[i]? = some o → (i = n ∧ o = a') ∨ (i ≠ n ∧ a1.2[i]? = some o) := fun i o h => by
    by_cases z : n = i
    · subst z
      rw [List.getElem?_set_self hl] at h
      exact .inl ⟨rfl, (Option.some.inj h).symm⟩
    · rw [List.getElem?_set_ne z] at h
      exact .inr ⟨Ne.symm z, h⟩
  refine ⟨⟨e.ff, e.fh, fun b z f r => ?_, fun b z f r => ?_, e.al, fun i b z => ?_⟩, ?_, ?_, fun i o fv hi hg => ?_, fun i j oi oj ne hi hj b hb hb' => ?_, fun o ho b hb r => ?_⟩
  · obtain ⟨p1, p2, p3⟩ := e.st b z f fun q => r (.inr ⟨oa, List.mem_of_getElem? hn, q⟩)
    refine ⟨p1, p2, fun q => ?_⟩
    rcases q with q | ⟨o, ho, hb⟩
    · exact r (.inl q)
    · rcases mem o ho with ho | rfl
      · exact r (.inr ⟨o, ho, hb⟩)
      · exact p3 hb
  · by_cases q : b ∈ oa.all
    · exact e.rg b z f q
    · exact (e.st b z f q).1
  · match i, z with
    | 0, z => exact z
    | 1, z => exact z
    | m + 2, z =>
      have z' : (a1.2[m]?).map OA.p = some b := z
      show ((a1.2.set n a')[m]?).map OA.p = some b
      by_cases q : n = m
      · subst q
        rw [List.getElem?_set_self hl]
        rw [hn] at z'
        simpa [hp] using z'
      · rw [List.getElem?_set_ne q]
        exact z'
  · exact W0.keep t.1 e.ff fun b z => let ⟨p1, p2, _⟩ := w0 b z; ⟨p1, p2⟩
  · show (a1.2.set n a').length = (g1.2.set n o').length
    rw [List.length_set, List.length_set]
    exact t.2.1
  · rcases get i o hi with ⟨rfl, rfl⟩ | ⟨ne, hi⟩
    · rw [List.getElem?_set_self (by have := t.2.1; omega)] at hg
      cases hg
      exact ⟨_, _, ob⟩
    · rw [List.getElem?_set_ne (Ne.symm ne)] at hg
      obtain ⟨C2, fs2, ob2⟩ := t.2.2.1 i o fv hi hg
      exact ⟨C2, fs2, ob2.keep e.ff fun b hb => let ⟨p1, p2, _⟩ := oth i o ne hi b hb; ⟨p1, p2⟩⟩
  · rcases get i oi hi with ⟨ni, ei⟩ | ⟨ni, hi2⟩
    · rcases get j oj hj with ⟨nj, ej⟩ | ⟨nj, hj2⟩
      · exact ne (ni.trans nj.symm)
      · exact (oth j oj nj hj2 b hb').2.2 (ei ▸ hb)
    · rcases get j oj hj with ⟨nj, ej⟩ | ⟨nj, hj2⟩
      · exact (oth i oi ni hi2 b hb).2.2 (ej ▸ hb')
      · exact t.2.2.2.1 i j oi oj ne hi2 hj2 b hb hb'
  · rcases mem o ho with ho | rfl
    · exact t.2.2.2.2 o ho b hb r
    · exact (w0 b r).2.2 hb
end

section
variable {W0 : Wld K}
theorem so_newO {n : Nat} {f : List PyData → GO → R Vl GO} {ta : TA} {ma : MA (GM W0.G)} (hn : ∀ ds g, ds.length + 1 ≠ n → f ds g = .no) (hC : ∃ C, mg c = some (.ref C)) (ha : SoundA (cM K mg c nm W0 Wx) ta ma) :
    SoundE (cM K mg c nm W0 Wx) (tMakeC mg c (spT (WO K mg c nm) mg 0 n f) ta) (sNewO f ma) := by
  intro a0 F0 H0 a g F H s r Q rp post
  unfold sNewO at post
  obtain ⟨C, hC⟩ := hC
  refine ⟨C, hC, ha _ _ _ _ _ _ _ _ _ _ rp ?_⟩
  cases h : ma r g with
  | no => rw [h] at post; exact post
  | er e g1 => rw [h] at post; exact post
  | ok vs g1 =>
    rw [h] at post
    simp only [R.bind_ok] at post
    intro a1 F1 H1 xs e1 t1 i1 x dx nx nd nex
    cases h2 : frzAll vs with
    | none => rw [h2] at post; exact post.elim
    | some ds =>
      rw [h2] at post
      simp only at post
      have hd := frz_dps (c := cM K mg c nm W0 Wx) i1 h2
      have e2 := letGo_ext (c := cM K mg c nm W0 Wx) e1
      have t2 := letGo_at (c := cM K mg c nm W0 Wx) e1 t1
      generalize letGo (((cM K mg c nm W0 Wx).W.reg a1)) H F1 H1 = F2 at hd e2 t2
      have fx : F2 x = none := by
        cases q : F2 x with
        | none => rfl
        | some o => rw [e2.fh x o q] at nx; cases nx
      have fd : F2 dx = none := by
        cases q : F2 dx with
        | none => rfl
        | some o => rw [e2.fh dx o q] at nd; cases nd
      have sub2 : ∀ b o, F2 b = some o → upd (upd H1 dx (.own x)) x (.ins C dx []) b = some o := fun b o z => by
        rw [upd_ne (ne_of_none z fx), upd_ne (ne_of_none z fd)]
        exact e2.fh b o z
      have ob : ObjAt K mg c nm ⟨x, dx, []⟩ [] F2 (upd (upd H1 dx (.own x)) x (.ins C dx [])) C [] := by
        refine ⟨hC, upd_same, by rw [upd_ne nex]; exact upd_same, rfl, Nat.zero_le _, .nil, ?_, fun b hb => ?_⟩
        · simp [OA.all, Ne.symm nex]
        · simp only [OA.all, List.mem_cons, List.not_mem_nil, or_false] at hb
          rcases hb with rfl | rfl
          · exact fx
          · exact fd
      refine ⟨?_, ⟨x, dx, []⟩, [], F2, x, xs, ds, by rw [List.append_nil], by simp, sub2, ⟨C, [], ob⟩, hd, ?_⟩
      · rw [List.append_nil, List.length_cons, dps_len hd]
        refine Classical.byContradiction fun z => ?_
        rw [hn ds [] z] at post
        exact post
      · cases hf : f ds [] with
        | no => rw [hf] at post; exact post.elim
        | er e g2 => rw [hf] at post; exact post.elim
        | ok v o =>
          rw [hf] at post
          cases v with
          | own l => exact post.elim
          | lent l => exact post.elim
          | tok k => exact post.elim
          | dat d =>
            cases d with
            | none =>
              intro a' F' H' y e3 t3 i n3
              have ey : y = .non := by cases i; rfl
              refine ⟨ey, ?_⟩
              obtain ⟨C', fs, o'⟩ := t3
              obtain ⟨F3, f1, f2, f3, o3⟩ := o'.frz
              have hp : a'.p = x := by
                have := e3.tk 0 x (by simp)
                simpa using this
              have mk := made_new (W0 := W0) (o3 := (frzG o).map FV.dat) e2.fh t2 nx nd e3 f1 (fun b u z => by
                by_cases q : b ∈ a'.qs
                · rw [f3 b q] at z; exact z
                · rw [f2 b q] at z; exact e3.fh b u z) (fun b q => f2 b fun z => q (by simp [OA.all, z])) (a3 := ⟨a'.p, a'.dx, []⟩) (fun b q => by
                simp only [OA.all, List.mem_cons, List.not_mem_nil, or_false] at q ⊢
                rcases q with q | q
                · exact .inl q
                · exact .inr (.inl q)) o3
              refine post _ F3 H' (.ref x) (e2.trans mk.1) mk.2 ⟨x, ?_, rfl⟩ True.intro
              show ((a1.2 ++ [⟨a'.p, a'.dx, []⟩])[g1.2.length]?).map OA.p = some x
              have hl : a1.2.length = g1.2.length := t2.2.1
              rw [← hl]
              simp [hp]
            | _ => exact post.elim
theorem so_callO {i n : Nat} {m : Str} {f : List PyData → GO → R Vl GO} {ta : TA} {ma : MA (GM W0.G)} (hn : ∀ ds g, ds.length + 1 ≠ n → f ds g = .no) (hm : m ∉ nm) (ha : SoundA (cM K mg c nm W0 Wx) ta ma) :
    SoundE (cM K mg c nm W0 Wx) (tMethC mg c m (spT (WO K mg c nm) mg 0 n f) (fun s => WE Wx s) (tVar i) ta) (sCallO i f ma) := by
  intro a0 F0 H0 a g F H s r Q rp post
  unfold sCallO at post
  split at post
  · rename_i k hk
    obtain ⟨x, h1, p, h2, rfl⟩ := rp.slot i _ hk
    have h2' : (a.2[k]?).map OA.p = some p := h2
    have h2o : (cM K mg c nm W0 Wx).W.tok a (k + 2) = some p := h2
    obtain ⟨t1, tl, t3, t4, t5⟩ := rp.at_
    cases ho : a.2[k]? with
    | none => rw [ho] at h2'; cases h2'
    | some oa =>
      rw [ho] at h2'
      have hp : oa.p = p := by simpa using h2'
      subst hp
      have hkl := (List.getElem?_eq_some_iff.mp ho).1
      obtain ⟨C, fs, ob⟩ := t3 k oa _ ho (List.getElem?_eq_getElem (by omega))
      refine ⟨.ref oa.p, h1, oa.p, C, oa.dx, fs, rfl, ob.cls, ob.ins, ob.nolook hm, ?_⟩
      refine ha _ _ _ _ _ _ _ _ _ _ rp ?_
      cases h : ma r g with
      | no => rw [h] at post; exact post
      | er e g1 => rw [h] at post; exact post
      | ok vs g1 =>
        rw [h] at post
        simp only [R.bind_ok] at post
        intro a1 F1 H1 xs e1 u1 i1
        cases h2 : frzAll vs with
        | none => rw [h2] at post; exact post.elim
        | some ds =>
          rw [h2] at post
          cases h3 : g1.2[k]? with
          | none => rw [h3] at post; exact post.elim
          | some o =>
            rw [h3] at post
            simp only at post
            have hd := frz_dps (c := cM K mg c nm W0 Wx) i1 h2
            have e2 := letGo_ext (c := cM K mg c nm W0 Wx) e1
            have t2 := letGo_at (c := cM K mg c nm W0 Wx) e1 u1
            generalize letGo (((cM K mg c nm W0 Wx).W.reg a1)) H F1 H1 = F2 at hd e2 t2
            have hp1 : (a1.2[k]?).map OA.p = some oa.p := e2.tk (k + 2) oa.p h2o
            cases ho1 : a1.2[k]? with
            | none => rw [ho1] at hp1; cases hp1
            | some oa1 =>
              rw [ho1] at hp1
              have hp2 : oa1.p = oa.p := by simpa using hp1
              refine ⟨?_, oa1, o, F2, oa.p, xs, ds, rfl, by simp [hp2], e2.fh, t2.2.2.1 k oa1 o ho1 h3, hd, ?_⟩
              · rw [List.length_cons, dps_len hd]
                refine Classical.byContradiction fun z => ?_
                rw [hn ds o z] at post
                exact post
              · cases hf : f ds o with
                | no => rw [hf] at post; exact post.elim
                | er e g2 =>
                  rw [hf] at post
                  intro a' F' H' C' d e3 t3' i
                  obtain ⟨C2, fs2, o2⟩ := t3'
                  have mk := made_chg (W0 := W0) e2.fh t2 ho1 e3 o2
                  exact post _ F' H' C' d (e2.trans mk.1) mk.2 i
                | ok v o' =>
                  rw [hf] at post
                  intro a' F' H' y e3 t3' i n3
                  obtain ⟨C2, fs2, o2⟩ := t3'
                  have mk := made_chg (W0 := W0) e2.fh t2 ho1 e3 o2
                  cases v with
                  | dat d => exact post _ F' H' y (e2.trans mk.1) mk.2 i True.intro
                  | own l =>
                    obtain ⟨q, ys, rfl, hq, hdy, fq, rq⟩ := i
                    obtain ⟨q', eq', nq⟩ := n3
                    cases eq'
                    refine post _ F' H' _ (e2.trans mk.1) mk.2 ⟨q, ys, rfl, hq, hdy, fq, fun z => ?_⟩ ⟨q, rfl, Classical.byContradiction fun z => e2.al q z nq⟩
                    rcases z with z | ⟨o4, ho4, hb⟩
                    · exact ((WM K mg c nm W0).off t2 (.inl z)).2 nq
                    · rcases List.mem_or_eq_of_mem_set ho4 with ho4 | rfl
                      · exact ((WM K mg c nm W0).off t2 (.inr ⟨o4, ho4, hb⟩)).2 nq
                      · exact rq hb
                  | tok k => exact post.elim
                  | lent l => exact post.elim
  · exact post.elim
end
theorem runO_no {k n : Nat} {m : MS (GM Unit)} (ds : List PyData) (h : ds.length ≠ k) : runO k n m ds = .no := by
  unfold runO
  rw [if_neg h]
/-- a body in a world of objects keeps a plain promise -/
theorem bodyO_ok {E : XK} (hW : ∀ C d s H, E C d H → Wx C d s H) {N : List Str} {k : Nat} {t : TS} {m : MS (GM Unit)} (h : SoundS (cM K mg c nm (WU K) Wx) t m) {vs : List V} {H : Hp} {Q : VK} (sp : spP K mg k (runO k N.length m) vs H Q E) :
    t { nx := fun _ H' => Q .non H', rt := Q } (L2.start N vs) H := by
  obtain ⟨hl, F, ds, sub, hd, post⟩ := sp
  have hn : ds.length = vs.length := (dps_len hd).symm
  unfold runO at post
  rw [if_pos (hn.trans hl)] at post
  have at0 : (WM K mg c nm (WU K)).at_ ((), []) ((), []) F H := ⟨True.intro, rfl, fun i o fv hi _ => by simp at hi, fun i j oi oj _ hi _ => by simp at hi, fun o ho => by simp at ho⟩
  have rp : Rep (WM K mg c nm (WU K)) ((), []) F H ((), []) ((), []) F H (L2.start N vs) (envOf N.length ds) := by
    refine ⟨Ext.refl sub, at0, ?_, fun i v hi => ?_, fun i l hi => ?_, fun i l p hi => ?_⟩
    · unfold L2.start envOf
      simp [hn]
    · unfold L2.start envOf at *
      rw [hn] at hi
      obtain ⟨x, d, rfl, h3, h4⟩ := envOf_get hd _ i v hi
      exact ⟨x, h3, h4⟩
    · unfold envOf at hi
      obtain ⟨x, d, e, _⟩ := envOf_get hd _ i _ hi
      cases e
    · unfold envOf at hi
      obtain ⟨x, d, e, _⟩ := envOf_get hd _ i _ hi
      cases e
  have nr : ∀ b, ¬ (WM K mg c nm (WU K)).reg ((), []) b := fun b q => by
    rcases q with q | ⟨o, ho, _⟩
    · exact q
    · simp at ho
  have px : ∀ {a' : (WM K mg c nm (WU K)).A} {F' H' : Hp}, Ext (WM K mg c nm (WU K)) ((), []) F H a' F' H' → PExt F H F' H' := fun e => ⟨e.ff, e.fh, fun b z f => let ⟨x, y, _⟩ := e.st b z f (nr b); ⟨x, y⟩⟩
  refine h _ _ _ _ _ _ _ _ _ _ rp ?_
  show PostS (cM K mg c nm (WU K) Wx) ((), []) F H F _ (m (envOf N.length ds) (((), []) : GM Unit))
  revert post
  generalize m (envOf N.length ds) (((), []) : GM Unit) = z
  intro post
  cases z with
  | no => exact post.elim
  | bk r g => exact post.elim
  | ct r g => exact post.elim
  | nx r g =>
    intro a' F' H' s' rp' _
    exact post F' H' .non (px (Rep.ext rp')) .non
  | er e r g =>
    intro a' F' H' s' C d rp' i
    exact hW C d s' H' (post F' H' C d (px (Rep.ext rp')) i)
  | rt v g =>
    intro a' F' H' x e t i n
    cases v with
    | dat d => exact post F' H' x (px e) i
    | own l =>
      refine post F' H' x (px e) ?_
      obtain ⟨p, xs, rfl, hp, hd2, fp, _⟩ := i
      obtain ⟨q, eq, nq⟩ := n
      cases eq
      exact ⟨p, xs, rfl, hp, hd2, fp, nq⟩
    | tok n' => exact post.elim
    | lent l => exact post.elim
end
end CW
/-! CwSem2: sorted(list of data that are alike); min, max of a list. -/
namespace CW
open PySem
/-- the order of data -/
def sle : PyData → PyData → Bool := PySem.W.dataLe false id
def srtD (l : List PyData) : List PyData := l.mergeSort sle
def tupNE : PyData → Bool
  | .tuple (_ :: _) => true
  | _ => false
def notTN : PyData → Bool
  | .none => false
  | .tuple _ => false
  | _ => true
def srtOk (l : List PyData) : Bool := (l.all fun d => l.all fun e => PySem.W.alike d e) && (l.all tupNE || l.all notTN) && (l.all fun d => shp 12 d) && decide (l.length ≤ 100000)
@[simp] def oSrt (v : Vl) : Option Vl := match v.lst? with
  | some l => if srtOk l = true then some (.own (srtD l)) else none
  | none => none
@[simp] def bSrt : List Vl → Option Vl
  | [v] => oSrt v
  | _ => none
def maxI : Int → List Int → Int
  | m, [] => m
  | m, n :: ns => maxI (if n > m then n else m) ns
def minI : Int → List Int → Int
  | m, [] => m
  | m, n :: ns => minI (if n < m then n else m) ns
@[simp] def bMaxL : List Vl → Option Vl
  | [x] => (match x.lst? with
    | some l => (match intsOf l with
      | some (n :: ns) => some (.dat (.int (maxI n ns)))
      | _ => none)
    | none => none)
  | _ => none
@[simp] def bMinL : List Vl → Option Vl
  | [x] => (match x.lst? with
    | some l => (match intsOf l with
      | some (n :: ns) => some (.dat (.int (minI n ns)))
      | _ => none)
    | none => none)
  | _ => none
/-- two data that can be compared -/
def alk2 (d e : PyData) : Bool := PySem.W.alike d d && PySem.W.alike d e && (PySem.W.alike e d && PySem.W.alike e e) && (notNon d && notNon e) && (shp 12 d && shp 12 e)
where notNon : PyData → Bool
  | .none => false
  | _ => true
@[simp] def bMinX : List Vl → Option Vl
  | [.dat d, .dat e] => if alk2 d e = true then some (.dat (if PySem.W.dataLt e d = true then e else d)) else none
  | _ => none
@[simp] def bMaxX : List Vl → Option Vl
  | [.dat d, .dat e] => if alk2 d e = true then some (.dat (if PySem.W.dataLt d e = true then e else d)) else none
  | _ => none
@[simp] def sCallKR {G : Type} (f : List PyData → R Vl Unit) (n m : Nat) (a b : MA G) : ME G := fun r g => (a r g).bind fun vs g1 => (b r g1).bind fun zs g2 => match frzAll vs, frzAll zs with
  | some ds, some es => if ds.length = n ∧ es.length = m then (match f (ds ++ es.reverse) with
    | .ok v _ => .ok v g2
    | .er e _ => .er e g2
    | .no => .no) else .no
  | _, _ => .no
theorem maxI_spec : ∀ (ns : List Int) (m : Int), (maxI m ns = m ∨ maxI m ns ∈ ns) ∧ m ≤ maxI m ns ∧ ∀ y ∈ ns, y ≤ maxI m ns
  | [], m => ⟨.inl rfl, Int.le_refl _, fun y hy => absurd hy List.not_mem_nil⟩
  | n :: ns, m => by
    obtain ⟨h1, h2, h3⟩ := maxI_spec ns (if n > m then n else m)
    unfold maxI
    by_cases c : n > m
    · rw [if_pos c] at h1 h2 h3 ⊢
      refine ⟨.inr ?_, by omega, fun y hy => ?_⟩
      · rcases h1 with h1 | h1
        · rw [h1]; exact List.mem_cons_self
        · exact List.mem_cons_of_mem _ h1
      · rcases List.mem_cons.mp hy with rfl | hy
        · exact h2
        · exact h3 y hy
    · rw [if_neg c] at h1 h2 h3 ⊢
      refine ⟨?_, h2, fun y hy => ?_⟩
      · rcases h1 with h1 | h1
        · exact .inl h1
        · exact .inr (List.mem_cons_of_mem _ h1)
      · rcases List.mem_cons.mp hy with rfl | hy
        · omega
        · exact h3 y hy
theorem minI_spec : ∀ (ns : List Int) (m : Int), (minI m ns = m ∨ minI m ns ∈ ns) ∧ minI m ns ≤ m ∧ ∀ y ∈ ns, minI m ns ≤ y
  | [], m => ⟨.inl rfl, Int.le_refl _, fun y hy => absurd hy List.not_mem_nil⟩
  | n :: ns, m => by
    obtain ⟨h1, h2, h3⟩ := minI_spec ns (if n < m then n else m)
    unfold minI
    by_cases c : n < m
    · rw [if_pos c] at h1 h2 h3 ⊢
      refine ⟨.inr ?_, by omega, fun y hy => ?_⟩
      · rcases h1 with h1 | h1
        · rw [h1]; exact List.mem_cons_self
        · exact List.mem_cons_of_mem _ h1
      · rcases List.mem_cons.mp hy with rfl | hy
        · exact h2
        · exact h3 y hy
    · rw [if_neg c] at h1 h2 h3 ⊢
      refine ⟨?_, h2, fun y hy => ?_⟩
      · rcases h1 with h1 | h1
        · exact .inl h1
        · exact .inr (List.mem_cons_of_mem _ h1)
      · rcases List.mem_cons.mp hy with rfl | hy
        · omega
        · exact h3 y hy
/-! an object's fields, looked at -/
mutual
/-- no list stands in it -/
def flt : PyData → Bool
  | .list _ => false
  | .dict _ => false
  | .tuple l => flts l
  | _ => true
def flts : List PyData → Bool
  | [] => true
  | d :: l => flt d && flts l
end
/-- self.f where all fields are data -/
@[simp] def sRd (i : Nat) : ME (List PyData) := fun r g => if isSelf r then (match g[i]? with
  | some d => .ok (.dat d) g
  | none => .no) else .no
/-- an expression that looks at the object -/
@[simp] def sRo (m : ME (List PyData)) : ME GO := fun r g => match m r (frzG g) with
  | .ok (.dat d) _ => if flt d = true then .ok (.dat d) g else .no
  | .ok (.own l) _ => if flts l = true then .ok (.own l) g else .no
  | .er e _ => .er e g
  | _ => .no
/-- self.f[e1] = e2 -/
@[simp] def sFsetIx (i : Nat) (m1 m2 : ME (List PyData)) : MS GO := fun r g => if isSelf r then (match m2 r (frzG g) with
  | .ok (.dat d) _ => (match m1 r (frzG g) with
    | .ok (.dat (.int j)) _ => (match g[i]? with
      | some (.own l) => if flt d = true then (match atN l.length j with
        | some k => .nx r (g.set i (.own (l.set k d)))
        | none => .no) else .no
      | _ => .no)
    | _ => .no)
  | _ => .no) else .no
/-- self.f[e1] += e2, ints -/
@[simp] def sFaugIx (i : Nat) (m1 m2 : ME (List PyData)) : MS GO := fun r g => if isSelf r then (match m1 r (frzG g) with
  | .ok (.dat (.int j)) _ => (match m2 r (frzG g) with
    | .ok (.dat (.int b)) _ => (match g[i]? with
      | some (.own l) => if 0 ≤ j ∧ j < 100000 then (match l[j.toNat]? with
        | some (.int x) => .nx r (g.set i (.own (l.set j.toNat (.int (x + b)))))
        | _ => .no) else .no
      | _ => .no)
    | _ => .no)
  | _ => .no) else .no
/-- self.f += e, ints -/
@[simp] def sFaug (i : Nat) (m : ME (List PyData)) : MS GO := fun r g => if isSelf r then (match m r (frzG g) with
  | .ok (.dat (.int b)) _ => (match g[i]? with
    | some (.dat (.int x)) => .nx r (g.set i (.dat (.int (x + b))))
    | _ => .no)
  | _ => .no) else .no
/-- self.f.remove(e) -/
@[simp] def sFrem (i : Nat) (m : ME (List PyData)) : MS GO := fun r g => if isSelf r then (match m r (frzG g) with
  | .ok (.dat d) _ => (match g[i]? with
    | some (.own l) => if flt d = true ∧ PyData.plainAll l = true ∧ d.plain = true ∧ shp 12 d = true then (match l.findIdx? (fun y => PyData.eqv y d) with
      | some j => .nx r (g.set i (.own (l.eraseIdx j)))
      | none => .no) else .no
    | _ => .no)
  | _ => .no) else .no
/-! objects that go on changing, behind another world -/
@[simp] def sNewC {G : Type} (f : List PyData → GO → R Vl GO) (a : MA (GM G)) : ME (GM G) := fun r g => (a r g).bind fun vs g1 => match frzAll vs with
  | some ds => (match f ds [] with
    | .ok (.dat .none) o => .ok (.tok (g1.2.length + 2)) (g1.1, g1.2 ++ [o])
    | _ => .no)
  | none => .no
/-- a def that is handed a thing of the other world -/
@[simp] def sCallTM {G : Type} (n0 : Nat) (f : List PyData → G → R Vl G) (a : MA (GM G)) : ME (GM G) := fun r g => (a r g).bind fun vs g1 => match vs with
  | .tok k :: vs => if k = n0 then (match frzAll vs with
    | some ds => (match f ds g1.1 with
      | .ok (.dat d) g2 => .ok (.dat d) (g2, g1.2)
      | .ok (.own l) g2 => .ok (.own l) (g2, g1.2)
      | .ok (.tok j) g2 => .ok (.tok j) (g2, g1.2)
      | .ok (.lent _) _ => .no
      | .er e g2 => .er e (g2, g1.2)
      | .no => .no)
    | none => .no) else .no
  | _ => .no
/-! zip of three, of data -/
@[simp] def zipL3 : List PyData → List PyData → List PyData → List PyData
  | a :: as, b :: bs, c :: cs => .tuple [a, b, c] :: zipL3 as bs cs
  | _, _, _ => []
@[simp] def datItems : PyData → Option (List PyData)
  | .list l => some l
  | .tuple l => some l
  | _ => none
@[simp] def iZip3 {G : Type} (e e2 e3 : ME G) : MI G := fun r g => (e r g).bind fun x g1 => (e2 r g1).bind fun y g2 => (e3 r g2).bind fun z g3 => match x, y, z with
  | .dat a, .dat b, .dat c => (match datItems a, datItems b, datItems c with
    | some l, some m, some n => .ok (zipL3 l m n) g3
    | _, _, _ => .no)
  | _, _, _ => .no
/-- for x in [a, b], two things of the world -/
@[simp] def sFor2 {G : Type} (i j k : Nat) (b : MS G) : MS G := fun r g => match r[i]?, r[j]? with
  | some (some (.tok m)), some (some (.tok n)) => (match b (r.set k (some (.tok m))) g with
    | .nx r1 g1 => (match b (r1.set k (some (.tok n))) g1 with
      | .nx r2 g2 => .nx r2 g2
      | _ => .no)
    | _ => .no)
  | _, _ => .no
/-! refusals -/
/-- raise C("..") -/
@[simp] def sRaise {G : Type} (n : Str) : MS G := fun r g => .er ⟨n, none⟩ r g
@[simp] def refD (e : Er) : PyData := match e.arg with
  | none => .tuple [.str "refused", .str e.cls]
  | some i => .tuple [.str "refused", .str e.cls, .int i]
/-- _law_told(lambda: e), of refusals of these names -/
@[simp] def sTold {G : Type} (ns : List Str) (m : ME G) : ME G := fun r g => match m r g with
  | .ok (.lent _) _ => .no
  | .ok v g1 => .ok v g1
  | .er e g1 => if e.cls ∈ ns ∧ e.arg = none then .ok (.dat (refD e)) g1 else .no
  | .no => .no
/-- raise C(k) -/
@[simp] def sRaiseA {G : Type} (n : Str) (m : ME G) : MS G := fun r g => (m r g).out r fun v g1 => match v with
  | .dat (.int k) => .er ⟨n, some k⟩ r g1
  | _ => .no
/-- x in range(lo, hi) -/
@[simp] def sInR {G : Type} (lo hi : Int) (m : ME G) : ME G := fun r g => (m r g).bind fun v g1 => match v with
  | .dat (.int i) => .ok (.dat (.bool (decide (lo ≤ i ∧ i < hi)))) g1
  | _ => .no
/-- .. with numbers, too -/
@[simp] def sToldA {G : Type} (ns na : List Str) (m : ME G) : ME G := fun r g => match m r g with
  | .ok (.lent _) _ => .no
  | .ok v g1 => .ok v g1
  | .er e g1 => if (e.cls ∈ ns ∧ e.arg = none) ∨ (e.cls ∈ na ∧ e.arg ≠ none) then .ok (.dat (refD e)) g1 else .no
  | .no => .no
/-- e.at of the refusal at hand -/
@[simp] def sXf {G : Type} (k : Int) (i : Nat) : ME G := fun r g => match r[i]? with
  | some (some (.tok 0)) => .ok (.dat (.int k)) g
  | _ => .no
/-- isinstance(e, C) of the refusal at hand -/
@[simp] def sIsE {G : Type} (b : Bool) (i : Nat) : ME G := fun r g => match r[i]? with
  | some (some (.tok 0)) => .ok (.dat (.bool b)) g
  | _ => .no
/-- x.count(d), x.index(d), x a slot's list -/
@[simp] def fCnt (d : PyData) (v : Vl) : Option Int := match v.lst? with
  | some l => if l.all flat && flat d then some ((l.countP fun e => deq e d : Nat) : Int) else none
  | none => none
@[simp] def fIdx (d : PyData) (v : Vl) : Option Int := match v.lst? with
  | some l => if l.all flat && flat d then (l.findIdx? fun e => deq e d).map Int.ofNat else none
  | none => none
@[simp] def sLm {G : Type} (f : Vl → Option Int) (i : Nat) : ME G := fun r g => ((sV i : ME G) r g).bind fun x g1 => match f x with
  | some k => .ok (.dat (.int k)) g1
  | none => .no
/-- what no run reaches -/
@[simp] def sNo {G : Type} : ME G := fun _ _ => .no
/-! range that falls; enumerate of a range -/
def rngD (a : Int) (n : Nat) : List PyData := (List.range n).map fun i => .int (a + (i : Nat) * (-1))
@[simp] noncomputable def iRngS {G : Type} (e e2 e3 : ME G) : MI G := fun r g => (e r g).bind fun x g1 => (e2 r g1).bind fun y g2 => (e3 r g2).bind fun z g3 => match x, y, z with
  | .dat (.int i), .dat (.int j), .dat (.int c) => if inRng i = true ∧ inRng j = true ∧ c = -1 then .ok (rngD i (i - j).toNat) g3 else .no
  | _, _, _ => .no
@[simp] noncomputable def iEnumR {G : Type} (e : ME G) : MI G := fun r g => (e r g).bind fun x g1 => match x with
  | .dat (.int j) => if inRng j = true then .ok (enumL 0 (rngL 0 j.toNat)) g1 else .no
  | _ => .no
/-- x.index(e), x a slot's list -/
@[simp] def sIdxE {G : Type} (i : Nat) (m : ME G) : ME G := fun r g => ((sV i : ME G) r g).bind fun x g1 => if x.lst?.isSome = true then (m r g1).bind fun y g2 => match y with
  | .dat d => (match fIdx d x with
    | some k => .ok (.dat (.int k)) g2
    | none => .no)
  | _ => .no
  else .no
end CW
/-! CwSort: sorted of data that are alike; min, max of a list. -/
namespace CW
open PySem L2
def rSrtD (K : FR) : List V → Hp → VK → Prop := fun vs H Q => ∃ (a : Addr) (xs : List V) (ds : List PyData) (F : Hp), vs = [V.ref a] ∧ SqL K H a xs ∧ (∀ b o, F b = some o → H b = some o) ∧ DpAll K F xs ds ∧ PySem.W.AllAlike ds ∧ PySem.W.Sortable ds ∧ (∀ d ∈ ds, shp 12 d = true) ∧ ds.length ≤ 100000 ∧
  ∀ (ys : List V) (p : Addr), DpAll K F ys (srtD ds) → H p = none → Q (.ref p) (upd H p (.lst ys))
theorem each_dps {K : FR} {F : Hp} : ∀ {xs : List V} {ds : List PyData} {us : List Value}, DpAll K F xs ds → Vals xs us → PySem.W.EachIs (fun v d => ∃ x, RelV x v ∧ Dp K F x d) us ds
  | _, _, _, .nil, .nil => .nil
  | _, _, _, .cons h t, .cons r s => .cons ⟨_, r, h⟩ (each_dps t s)
theorem dps_each {K : FR} {F : Hp} : ∀ {us : List Value} {ds : List PyData}, PySem.W.EachIs (fun v d => ∃ x, RelV x v ∧ Dp K F x d) us ds → ∃ xs, Vals xs us ∧ DpAll K F xs ds
  | _, _, .nil => ⟨[], .nil, .nil⟩
  | _, _, .cons ⟨x, r, h⟩ t => by
    obtain ⟨xs, v, d⟩ := dps_each t
    exact ⟨x :: xs, .cons r v, .cons h d⟩
theorem cr_srtD {X : Cx} (hu : X.A.units + 64 < cLine) : CallR X (.builtin "sorted") (rSrtD X.K) := by
  intro pins s σ H vs us Q I r h
  obtain ⟨a, xs, ds, F, rfl, hs, sub, hd, hal, hk, hsh, hl100, q⟩ := h
  obtain ⟨its, rv, hl, hlen⟩ := I.list hs
  rw [Vals.ref1 r]
  have e := each_dps hd rv
  have dl : ds.length = its.length := (dps_len hd).symm.trans rv.length
  have er : PySem.W.EachIs (fun v d => ∃ as, Reads s.heap v (id d) as) its ds := e.mono fun v d ⟨x, r, h⟩ => Dp.reads I d x v (dp_lib d (dp_mono sub d h)) r
  have hal' : PySem.W.AllAlike (ds.map id) := by rw [List.map_id]; exact hal
  have hk' : PySem.W.Sortable (ds.map id) := by rw [List.map_id]; exact hk
  have h100 : (100000 : Nat) ≤ sizeLine := by decide
  refine PySem.W.sorted_data (bs := ds) (enc := id) hl.isList e er hal' hk' (by omega) (fun d hdm => ?_) fun out hlo heo => ?_
  · have := (shp_lay d 12 (hsh d hdm)).2
    show X.A.units + 2 + d.depth < cLine
    omega
  · obtain ⟨ys, hv, hy⟩ := dps_each heo
    obtain ⟨ep, he'⟩ := PyProof.Rows.sortedAll_at s.heap its out.toArray
    have hyl : ys.length ≤ sizeLine := by rw [hv.length, hlo]; omega
    exact ⟨.ref _, upd H (s.heap.objs.size + 1) (.lst ys), I.laid (t' := s.toks) (fun _ _ => PyProof.Rows.sortedAll_old) (Nat.le_succ _) ⟨hyl, out, ep, hv, he'⟩, rfl, q ys _ hy (I.hok.fresh (Nat.le_succ _))⟩
section
variable {K : FR} {c : Ctx K}
theorem srtOk_spec {l : List PyData} (h : srtOk l = true) : PySem.W.AllAlike l ∧ PySem.W.Sortable l ∧ (∀ d ∈ l, shp 12 d = true) ∧ l.length ≤ 100000 := by
  unfold srtOk at h
  rw [Bool.and_eq_true, Bool.and_eq_true, Bool.and_eq_true] at h
  obtain ⟨⟨⟨h1, h2⟩, h3⟩, h4⟩ := h
  refine ⟨fun d hd e he => List.all_eq_true.mp (List.all_eq_true.mp h1 d hd) e he, ?_, fun d hd => List.all_eq_true.mp h3 d hd, of_decide_eq_true h4⟩
  rw [Bool.or_eq_true] at h2
  rcases h2 with h2 | h2
  · refine .inl fun d hd => ?_
    have := List.all_eq_true.mp h2 d hd
    unfold tupNE at this
    split at this
    · exact ⟨_, _, rfl⟩
    · cases this
  · refine .inr fun d hd => ?_
    have := List.all_eq_true.mp h2 d hd
    unfold notTN at this
    split at this
    · cases this
    · cases this
    · rename_i h5 h6
      exact ⟨h5, h6⟩
theorem sb_srt : SoundB c (rSrtD K) bSrt := by
  intro a g F H Hs xs vs w Q sub t i h k
  unfold bSrt at h
  split at h
  · rename_i v
    unfold oSrt at h
    split at h
    · rename_i l hl
      split at h
      · rename_i hok
        cases h
        obtain ⟨h1, h2, h3, h4⟩ := srtOk_spec hok
        cases i with
        | cons iv n d t2 =>
          cases t2
          obtain ⟨p, ys, rfl, hp, hd⟩ := iv.lst sub hl
          exact ⟨p, ys, l, F, rfl, .inl hp, sub, hd, h1, h2, h3, h4, fun zs q hz hq => own_new (c := c) sub t hz hq fun F3 H3 z e3 i3 n3 => k F3 H3 z e3 i3 n3⟩
      · cases h
    · cases h
  · cases h
theorem sb_maxL : SoundB c (rMax K) bMaxL := by
  intro a g F H Hs xs vs w Q sub t i h k
  unfold bMaxL at h
  split at h
  · split at h
    · rename_i x l hl
      split at h
      · rename_i n ns hn
        cases h
        cases i with
        | cons iv nw d t2 =>
          cases t2
          obtain ⟨p, xs, rfl, hp, hx⟩ := iv.lst sub hl
          have e := intsOf_dps hn hx
          subst e
          obtain ⟨m1, m2, m3⟩ := maxI_spec ns n
          refine ⟨p, n :: ns, rfl, .inl hp, by simp, fun m hm hm2 => ?_⟩
          have e : m = maxI n ns := by
            have a1 : m ≤ maxI n ns := by
              rcases List.mem_cons.mp hm with rfl | hm
              · exact m2
              · exact m3 m hm
            have a2 : maxI n ns ≤ m := hm2 _ (by
              rcases m1 with e | e
              · rw [e]; exact List.mem_cons_self
              · exact List.mem_cons_of_mem _ e)
            omega
          subst e
          exact k F H _ (PExt.refl sub) (.int _) True.intro
      · cases h
    · cases h
  · cases h
theorem sb_minL : SoundB c (rMin K) bMinL := by
  intro a g F H Hs xs vs w Q sub t i h k
  unfold bMinL at h
  split at h
  · split at h
    · rename_i x l hl
      split at h
      · rename_i n ns hn
        cases h
        cases i with
        | cons iv nw d t2 =>
          cases t2
          obtain ⟨p, xs, rfl, hp, hx⟩ := iv.lst sub hl
          have e := intsOf_dps hn hx
          subst e
          obtain ⟨m1, m2, m3⟩ := minI_spec ns n
          refine ⟨p, n :: ns, rfl, .inl hp, by simp, fun m hm hm2 => ?_⟩
          have e : m = minI n ns := by
            have a1 : minI n ns ≤ m := by
              rcases List.mem_cons.mp hm with rfl | hm
              · exact m2
              · exact m3 m hm
            have a2 : m ≤ minI n ns := hm2 _ (by
              rcases m1 with e | e
              · rw [e]; exact List.mem_cons_self
              · exact List.mem_cons_of_mem _ e)
            omega
          subst e
          exact k F H _ (PExt.refl sub) (.int _) True.intro
      · cases h
    · cases h
  · cases h
end
end CW
/-! CwMin: min, max of two data that are alike. -/
namespace CW
open PySem PySem.W PyProof.Rows L2
section
variable {prog : Program} {w : World} {A : Around} {E : Value → Shared → Prop} {s : Shared}
theorem min_two_data {a b : Value} {x y : PyData} {as bs : List Addr} {Q : Value → Shared → Prop} (hh : A.handled = none) (ra : Reads s.heap a x as) (rb : Reads s.heap b y bs) (al : AlikeAll [x, y]) (hu : A.units + 1 + PyData.depthAll [x, y] < cLine)
    (h : ∀ h' tk, (∀ c o, s.heap.get? c = some o → h'.get? c = some o) → Q (if dataLt y x = true then b else a) { s with heap := h', toks := tk }) : wpAny (model prog w) A (call (.builtin "min") [a, b]) Q E s := by
  have hname : (toString "min" ++ toString ".loop" : String) = "min.loop" := by decide
  have keep : ∀ c o, s.heap.get? c = some o → (s.heap.push { cls := .type "tuple", data := .seq #[a, b] }).get? c = some o := fun c o e => Heap.get?_push_of_some _ e
  have hl : (s.heap.push { cls := .type "tuple", data := .seq #[a, b] }).IsTuple s.heap.objs.size #[a, b] := ⟨_, Heap.get?_push_size _ rfl, rfl, 0, rfl⟩
  have hr : ReadsAll (s.heap.push { cls := .type "tuple", data := .seq #[a, b] }) (#[a, b] : Array Value).toList [x, y] (as ++ (bs ++ [])) := .cons (reads_keeps keep ra) (.cons (reads_keeps keep rb) .nil)
  refine call_function_tree F.kind_min F.plain_min F.entry_min (F.args_min2 _ _) ?_
  show wpAny _ A.in1 (Builtin.Builtins.bindParams "min" ["key", "default"] 0 ⟨[], []⟩ >>= _) _ _ s
  refine wpAny_bind (wpAny_of_eq (show Builtin.Builtins.bindParams "min" ["key", "default"] 0 ⟨[], []⟩ = pure [none, none] from rfl) ?_)
  show wpAny _ A.in1 (newTuple [a, b] >>= _) _ _ s
  refine wpAny_bind (wpAny_newObj_type ?_)
  refine wpAny_bind (iter_tupleW (A := A.in1) (s := { s with heap := s.heap.push { cls := .type "tuple", data := .seq #[a, b] } }) hh hl fun s₂ e W st hfp hw hk => ?_)
  refine wpAny_bind (wpAny_newObj_type ?_)
  have hSf : s₂.heap.objs.size ∉ _ := fun hm => Nat.lt_irrefl _ (hfp _ hm)
  rw [hname]
  refine wpAny_pure ⟨plainId_quiet F.plain_min_loop _, codeAny_min_loop_firstH W (s.heap.push { cls := .type "tuple", data := .seq #[a, b] }) hw _ (cmpIn_lt (A := A.in1) (s := { s with heap := s.heap.push { cls := .type "tuple", data := .seq #[a, b] } }) hr al (by show A.units + 1 + _ < _; exact hu)) s₂.heap.objs.size hSf (fresh_in hk) _ (by simp)
    (fun c o e => Heap.get?_push_of_some _ (hk c o e)) (W.frame 0 s₂ _ s₂.toks st (Nat.le_refl _) fun c _ o e => Heap.get?_push_of_some _ e) (Heap.get?_push_size _ rfl) fun v s' hP hm => ?_⟩
  have m := Moved.drop_new (tk := s₂.toks) hm (Nat.le_refl _)
  obtain ⟨h', tk, es, hk'⟩ := moved_old e rfl m
  subst es
  have q := h h' tk fun c o e => hk' c o (keep c o e)
  have hv : v = if dataLt y x = true then b else a := by
    by_cases c : dataLt y x = true
    · have e2 : argBest (fun i j => dataLt ([x, y].getD i .none) ([x, y].getD j .none)) 1 = 1 := by simp [argBest, c]
      have hP' : (#[a, b] : Array Value)[argBest (fun i j => dataLt ([x, y].getD i .none) ([x, y].getD j .none)) 1]? = some v := hP
      rw [e2] at hP'
      rw [if_pos c]
      simpa using hP'.symm
    · have e2 : argBest (fun i j => dataLt ([x, y].getD i .none) ([x, y].getD j .none)) 1 = 0 := by simp [argBest, c]
      have hP' : (#[a, b] : Array Value)[argBest (fun i j => dataLt ([x, y].getD i .none) ([x, y].getD j .none)) 1]? = some v := hP
      rw [e2] at hP'
      rw [if_neg c]
      simpa using hP'.symm
  rw [hv]
  exact q
theorem max_two_data {a b : Value} {x y : PyData} {as bs : List Addr} {Q : Value → Shared → Prop} (hh : A.handled = none) (ra : Reads s.heap a x as) (rb : Reads s.heap b y bs) (al : AlikeAll [x, y]) (hu : A.units + 1 + PyData.depthAll [x, y] < cLine)
    (h : ∀ h' tk, (∀ c o, s.heap.get? c = some o → h'.get? c = some o) → Q (if dataLt x y = true then b else a) { s with heap := h', toks := tk }) : wpAny (model prog w) A (call (.builtin "max") [a, b]) Q E s := by
  have hname : (toString "max" ++ toString ".loop" : String) = "max.loop" := by decide
  have keep : ∀ c o, s.heap.get? c = some o → (s.heap.push { cls := .type "tuple", data := .seq #[a, b] }).get? c = some o := fun c o e => Heap.get?_push_of_some _ e
  have hl : (s.heap.push { cls := .type "tuple", data := .seq #[a, b] }).IsTuple s.heap.objs.size #[a, b] := ⟨_, Heap.get?_push_size _ rfl, rfl, 0, rfl⟩
  have hr : ReadsAll (s.heap.push { cls := .type "tuple", data := .seq #[a, b] }) (#[a, b] : Array Value).toList [x, y] (as ++ (bs ++ [])) := .cons (reads_keeps keep ra) (.cons (reads_keeps keep rb) .nil)
  refine call_function_tree F.kind_max F.plain_max F.entry_max (F.args_max2 _ _) ?_
  show wpAny _ A.in1 (Builtin.Builtins.bindParams "max" ["key", "default"] 0 ⟨[], []⟩ >>= _) _ _ s
  refine wpAny_bind (wpAny_of_eq (show Builtin.Builtins.bindParams "max" ["key", "default"] 0 ⟨[], []⟩ = pure [none, none] from rfl) ?_)
  show wpAny _ A.in1 (newTuple [a, b] >>= _) _ _ s
  refine wpAny_bind (wpAny_newObj_type ?_)
  refine wpAny_bind (iter_tupleW (A := A.in1) (s := { s with heap := s.heap.push { cls := .type "tuple", data := .seq #[a, b] } }) hh hl fun s₂ e W st hfp hw hk => ?_)
  refine wpAny_bind (wpAny_newObj_type ?_)
  have hSf : s₂.heap.objs.size ∉ _ := fun hm => Nat.lt_irrefl _ (hfp _ hm)
  rw [hname]
  refine wpAny_pure ⟨plainId_quiet F.plain_max_loop _, codeAny_max_loop_firstH W (s.heap.push { cls := .type "tuple", data := .seq #[a, b] }) hw _ (cmpIn_gt (A := A.in1) (s := { s with heap := s.heap.push { cls := .type "tuple", data := .seq #[a, b] } }) hr al (by show A.units + 1 + _ < _; exact hu)) s₂.heap.objs.size hSf (fresh_in hk) _ (by simp)
    (fun c o e => Heap.get?_push_of_some _ (hk c o e)) (W.frame 0 s₂ _ s₂.toks st (Nat.le_refl _) fun c _ o e => Heap.get?_push_of_some _ e) (Heap.get?_push_size _ rfl) fun v s' hP hm => ?_⟩
  have m := Moved.drop_new (tk := s₂.toks) hm (Nat.le_refl _)
  obtain ⟨h', tk, es, hk'⟩ := moved_old e rfl m
  subst es
  have q := h h' tk fun c o e => hk' c o (keep c o e)
  have hv : v = if dataLt x y = true then b else a := by
    by_cases c : dataLt x y = true
    · have e2 : argBest (fun i j => dataLt ([x, y].getD j .none) ([x, y].getD i .none)) 1 = 1 := by simp [argBest, c]
      have hP' : (#[a, b] : Array Value)[argBest (fun i j => dataLt ([x, y].getD j .none) ([x, y].getD i .none)) 1]? = some v := hP
      rw [e2] at hP'
      rw [if_pos c]
      simpa using hP'.symm
    · have e2 : argBest (fun i j => dataLt ([x, y].getD j .none) ([x, y].getD i .none)) 1 = 0 := by simp [argBest, c]
      have hP' : (#[a, b] : Array Value)[argBest (fun i j => dataLt ([x, y].getD j .none) ([x, y].getD i .none)) 1]? = some v := hP
      rw [e2] at hP'
      rw [if_neg c]
      simpa using hP'.symm
  rw [hv]
  exact q
end
section
variable {K : FR} {c : Ctx K}
theorem alk2_spec {d e : PyData} (h : alk2 d e = true) : AlikeAll [d, e] ∧ shp 12 d = true ∧ shp 12 e = true := by
  unfold alk2 at h
  simp only [Bool.and_eq_true] at h
  obtain ⟨⟨⟨⟨h1, h2⟩, h3, h4⟩, h5, h6⟩, h7, h8⟩ := h
  refine ⟨⟨fun x hx y hy => ?_, fun x hx z => ?_⟩, h7, h8⟩
  · simp only [List.mem_cons, List.not_mem_nil, or_false] at hx hy
    rcases hx with rfl | rfl <;> rcases hy with rfl | rfl <;> assumption
  · simp only [List.mem_cons, List.not_mem_nil, or_false] at hx
    subst z
    rcases hx with rfl | rfl
    · cases h5
    · cases h6
def rMinX (K : FR) : List V → Hp → VK → Prop := fun vs H Q => ∃ (x y : V) (d e : PyData), vs = [x, y] ∧ L2.Dp K H x d ∧ L2.Dp K H y e ∧ alk2 d e = true ∧ Q (if dataLt e d = true then y else x) H
def rMaxX (K : FR) : List V → Hp → VK → Prop := fun vs H Q => ∃ (x y : V) (d e : PyData), vs = [x, y] ∧ L2.Dp K H x d ∧ L2.Dp K H y e ∧ alk2 d e = true ∧ Q (if dataLt d e = true then y else x) H
theorem alk2_depth {d e : PyData} {u : Nat} (h : alk2 d e = true) (hu : u + 64 < cLine) : u + 1 + PyData.depthAll [d, e] < cLine := by
  obtain ⟨_, h1, h2⟩ := alk2_spec h
  have a := (shp_lay d 12 h1).2
  have b := (shp_lay e 12 h2).2
  have : PyData.depthAll [d, e] ≤ 12 := by
    simp only [PyData.depthAll]
    omega
  omega
theorem cr_minX {X : Cx} (hc : X.calm = true) (hu : X.A.units + 64 < cLine) : CallR X (.builtin "min") (rMinX X.K) := by
  intro pins s σ H vs us Q I r h
  obtain ⟨x, y, d, e, rfl, h1, h2, h3, q⟩ := h
  obtain ⟨u, w', rfl, r1, r2⟩ := vals2 r
  obtain ⟨as, ra⟩ := Dp.reads I d x u h1 r1
  obtain ⟨bs, rb⟩ := Dp.reads I e y w' h2 r2
  refine min_two_data (I.ok.hd hc) ra rb (alk2_spec h3).1 (alk2_depth h3 hu) fun h' tk k => ⟨_, H, I.kept k, ?_, q⟩
  by_cases z : dataLt e d = true
  · rw [if_pos z, if_pos z]; exact r2
  · rw [if_neg z, if_neg z]; exact r1
theorem cr_maxX {X : Cx} (hc : X.calm = true) (hu : X.A.units + 64 < cLine) : CallR X (.builtin "max") (rMaxX X.K) := by
  intro pins s σ H vs us Q I r h
  obtain ⟨x, y, d, e, rfl, h1, h2, h3, q⟩ := h
  obtain ⟨u, w', rfl, r1, r2⟩ := vals2 r
  obtain ⟨as, ra⟩ := Dp.reads I d x u h1 r1
  obtain ⟨bs, rb⟩ := Dp.reads I e y w' h2 r2
  refine max_two_data (I.ok.hd hc) ra rb (alk2_spec h3).1 (alk2_depth h3 hu) fun h' tk k => ⟨_, H, I.kept k, ?_, q⟩
  by_cases z : dataLt d e = true
  · rw [if_pos z, if_pos z]; exact r2
  · rw [if_neg z, if_neg z]; exact r1
theorem sb_minX : SoundB c (rMinX K) bMinX := by
  intro a g F H Hs xs vs w Q sub t i h k
  unfold bMinX at h
  split at h
  · rename_i d e
    split at h
    · rename_i ha
      cases h
      cases i with
      | cons iv n dd t2 =>
        cases t2 with
        | cons iv2 n2 d2 t3 =>
          cases t3
          refine ⟨_, _, d, e, rfl, dp_lib _ (dp_mono sub _ iv), dp_lib _ (dp_mono sub _ iv2), ha, k F H _ (PExt.refl sub) ?_ True.intro⟩
          by_cases z : dataLt e d = true
          · rw [if_pos z, if_pos z]; exact iv2
          · rw [if_neg z, if_neg z]; exact iv
    · cases h
  · cases h
theorem sb_maxX : SoundB c (rMaxX K) bMaxX := by
  intro a g F H Hs xs vs w Q sub t i h k
  unfold bMaxX at h
  split at h
  · rename_i d e
    split at h
    · rename_i ha
      cases h
      cases i with
      | cons iv n dd t2 =>
        cases t2 with
        | cons iv2 n2 d2 t3 =>
          cases t3
          refine ⟨_, _, d, e, rfl, dp_lib _ (dp_mono sub _ iv), dp_lib _ (dp_mono sub _ iv2), ha, k F H _ (PExt.refl sub) ?_ True.intro⟩
          by_cases z : dataLt d e = true
          · rw [if_pos z, if_pos z]; exact iv2
          · rw [if_neg z, if_neg z]; exact iv
    · cases h
  · cases h
end
end CW
/-! CwKw2: .. the keyword-only ones in the other order. -/
namespace CW
open PySem PySem.Spec PyProof.Rows L2
theorem vals_rev : ∀ {vs : List V} {us : List Value}, Vals vs us → Vals vs.reverse us.reverse
  | _, _, .nil => .nil
  | _, _, .cons h t => by
    rw [List.reverse_cons, List.reverse_cons]
    exact (vals_rev t).append (.cons h .nil)
theorem dps_rev {K : FR} {H : Hp} : ∀ {vs : List V} {ds : List PyData}, DpAll K H vs ds → DpAll K H vs.reverse ds.reverse
  | _, _, .nil => .nil
  | _, _, .cons h t => by
    rw [List.reverse_cons, List.reverse_cons]
    exact dps_app (dps_rev t) (.cons h .nil)
def tCallNR (n m : Nat) (sp : Sp) (E : L2.St → XK) (t tk : TA) : TE := fun σ H Q => t σ H fun vs H1 => tk σ H1 fun zs H2 => vs.length = n ∧ zs.length = m ∧ sp (vs ++ zs.reverse) H2 Q (E σ)
def HasKR (P : Program) (w : World) (K : FR) (mg : Str → Option Value) (base : Heap) (k : Nat) (x : Str) (ps : List Str) (n : Nat) (ks : List Str) (sp : Sp) : Prop :=
  ∃ f fd, FnOk P w K mg base (L2.CX P w) k f fd ps sp ∧ mg x = some (.ref f) ∧ PySem.W.keepIn K (.ref f) = true ∧ KBn K fd ps n ks (fun us ws => us ++ ws.reverse) (fun us ws => us ++ ws.reverse)
section
variable {X : Cx} {CX : CXT} {k n : Nat} {f : Addr} {fd : FuncData} {ps ks : List Str} {sp : Sp} {E : L2.St → XK} {x : Str} {p pos : Pos} {e : Expr} {es : List Expr} {kws : List Keyword} {t tk : TA} {g : List Value → List Value → List Value}
theorem run_fnNR {pins : List (Addr × Obj)} {σ : L2.St} {H : Hp} {s : Shared} {Q : VK} {us ws : List Value} {vs zs : List V} (F : FnOk X.prog X.w X.K X.mg X.base CX k f fd ps sp) (hr : Room k X.A) (hb : KBn X.K fd ps n ks (fun us ws => us ++ ws.reverse) (fun us ws => us ++ ws.reverse)) (hx : PassesAt CX X σ (E σ))
    (I : Inv X pins σ H s) (r : Vals vs us) (rz : Vals zs ws) (l1 : vs.length = n) (l2 : zs.length = ks.length) (h : sp (vs ++ zs.reverse) H Q (E σ)) : wpAny (model X.prog X.w) X.A (call (.ref f) us (ks.zip ws)) (EP X pins σ Q) X.xe s := by
  have r2 := hb.rel r rz
  refine wpAny_call (codeAny_mono (F.run X.A X.stack s H ⟨us, ks.zip ws⟩ (us ++ ws.reverse) (vs ++ zs.reverse) Q (E σ) hr I.env0 (hb.to s us ws I.kIn (r.length.symm.trans l1) (rz.length.symm.trans l2)) r2 h) fun r s' hq => ?_)
  cases r with
  | error e => exact hx pins H s e s' I hq
  | ok fl =>
    cases fl with
    | ret u => exact I.after hq
    | next => exact False.elim hq
    | brk => exact False.elim hq
    | cont => exact False.elim hq
theorem pe_callNR (F : FnOk X.prog X.w X.K X.mg X.base CX k f fd ps sp) (hr : Room k X.A) (hg : Gl X x) (hm : X.mg x = some (.ref f)) (hk : PySem.W.keepIn X.K (.ref f) = true) (hb : KBn X.K fd ps n ks (fun us ws => us ++ ws.reverse) (fun us ws => us ++ ws.reverse)) (hx : ∀ σ, PassesAt CX X σ (E σ))
    (ha : PA X (e :: es) t) (hkw : PK X kws tk) (hall : (backToKw pos (keywordEach kws X.env)).all (·.1.isSome) = true := by rfl) (hks : (backToKw pos (keywordEach kws X.env)).filterMap (·.1) = ks := by rfl)
    (hdb : (x == ("__debug__" : Str)) = false := by decide) (he : starEach (e :: es) X.env = (false, eval e X.env) :: starEach es X.env := by rfl)
    (hpl : ((backTo pos (starEach (e :: es) X.env)).any (·.1) || (backToKw pos (keywordEach kws X.env)).any (·.1.isNone)) = false := by rfl) :
    PE X (.Call (.Name x p) (e :: es) kws pos) (tCallNR n ks.length sp E t tk) := by
  refine ⟨fun pins s σ H Q I h => ?_⟩
  refine wpAny_Call_Name_kw (ld_glob I hg hm ?_ hdb)
  refine PySem.W.callWith_KW (h₀ := X.base) I.ok.mod.kin hk hall (thn (ha.run pos pins s σ H _ I h) fun us s1 ⟨vs, H1, I1, r, q⟩ => ?_) hpl he
  refine thn (hkw.run pos pins s1 σ H1 _ I1 q) fun ws s2 ⟨zs, H2, I2, rz, l1, l2, q2⟩ => ⟨I2.kIn, ?_⟩
  rw [hks]
  exact run_fnNR F hr hb (hx σ) I2 r rz l1 l2 q2
end
section
variable {X : Cx} {j k n : Nat} {ps ks : List Str} {sp : Sp} {x : Str} {p pos : Pos} {e : Expr} {es : List Expr} {kws : List Keyword} {t tk : TA} {W : WX}
theorem pe_callHKR (h : HasKR X.prog X.w X.K X.mg X.base j x ps n ks sp) (hr : Room k X.A) (hj : j ≤ k) (tks : Takes X W) (hg : Gl X x)
    (ha : PA X (e :: es) t) (hkw : PK X kws tk) {m : Nat} (hml : ks.length = m := by rfl) (hall : (backToKw pos (keywordEach kws X.env)).all (·.1.isSome) = true := by rfl) (hks : (backToKw pos (keywordEach kws X.env)).filterMap (·.1) = ks := by rfl)
    (hdb : (x == ("__debug__" : Str)) = false := by decide) (he : starEach (e :: es) X.env = (false, eval e X.env) :: starEach es X.env := by rfl)
    (hpl : ((backTo pos (starEach (e :: es) X.env)).any (·.1) || (backToKw pos (keywordEach kws X.env)).any (·.1.isNone)) = false := by rfl) :
    PE X (.Call (.Name x p) (e :: es) kws pos) (tCallNR n m sp (fun s => WE W s) t tk) := by
  obtain ⟨f, fd, F, hm, hk, hb⟩ := h
  subst hml
  exact pe_callNR F (hr.mono hj) hg hm hk hb (fun σ => passAt tks σ) ha hkw hall hks hdb he hpl
end
section
variable {K : FR} {x qual : Str} {params : Arguments} {body : List Stmt} {scope : Scope} {kws : List (Str × V)} {f : Addr} {fd : FuncData} {ps : List Str}
theorem kbindsR (F : FunD K x qual params body scope [] kws f fd) (n : Nat) (ks : List Str)
    (h : ∀ (kV doc pm : Value) (an : Option Addr) (cdv ct : Value) (us ws : List Value), us.length = n → ws.length = ks.length → bindArgs (PySem.W.fnOf x qual params body scope .none kV doc pm an cdv ct) ⟨us, ks.zip ws⟩ = pure (ps.zip (us ++ ws.reverse))) :
    KBn K fd ps n ks (fun us ws => us ++ ws.reverse) (fun us ws => us ++ ws.reverse) := by
  obtain ⟨oc, od, dV, kV, doc, pm, an, cdv, ct, osl, rfl, lk, hcd, hD, hK⟩ := F.ex
  rcases hD with ⟨_, rfl⟩ | ⟨e, _⟩
  · exact ⟨fun s us ws X l1 l2 => .of_eq (h kV doc pm an cdv ct us ws l1 l2), fun r1 r2 => r1.append (vals_rev r2)⟩
  · exact absurd rfl e
end
section
variable {K : FR} {c : Ctx K}
theorem so_callKR {mg : Str → Option Value} {n n1 m : Nat} {f : List PyData → R Vl Unit} {ta tk : TA} {ma mk : MA c.W.G} (hmg : c.mg = mg) (hn : ∀ ds, ds.length ≠ n → f ds = .no) (ha : SoundA c ta ma) (hk : SoundA c tk mk) :
    SoundE c (tCallNR n1 m (spP K mg n f) (fun s => WE c.Wx s) ta tk) (sCallKR f n1 m ma mk) := by
  subst hmg
  intro a0 F0 H0 a g F H s r Q rp post
  refine ha _ _ _ _ _ _ _ _ _ _ rp ?_
  unfold sCallKR at post
  cases h : ma r g with
  | no => rw [h] at post; exact post
  | er e g1 => rw [h] at post; exact post
  | ok vs g1 =>
    rw [h] at post
    simp only [R.bind_ok] at post
    intro a1 F1 H1 xs e1 t1 i1
    refine hk _ _ _ _ _ _ _ _ _ _ (rp.step e1 t1) ?_
    cases h3 : mk r g1 with
    | no => rw [h3] at post; exact post
    | er e g2 => rw [h3] at post; exact fun a' F' H' C d e2 t2 i => post a' F' H' C d (e1.trans e2) t2 i
    | ok zs g2 =>
      rw [h3] at post
      simp only [R.bind_ok] at post
      intro a2 F2 H2 ys e2 t2 i2
      have e12 := e1.trans e2
      have j1 := (i1.step e2)
      have j2 := i2.back e1.al
      cases h4 : frzAll vs with
      | none => rw [h4] at post; exact post.elim
      | some ds =>
        cases h5 : frzAll zs with
        | none => rw [h4, h5] at post; exact post.elim
        | some es =>
          rw [h4, h5] at post
          simp only at post
          have hd := dps_app (frz_dps j1 h4) (dps_rev (frz_dps j2 h5))
          have l1 := frzAll_len h4
          have l2 := frzAll_len h5
          have l3 := i1.len
          have l4 := i2.len
          split at post
          · rename_i hl
            have e3 := letGo_ext e12
            have t3 := letGo_at e12 t2
            refine ⟨by omega, by omega, ?_, _, ds ++ es.reverse, e3.fh, hd, ?_⟩
            · rw [dps_len hd]
              refine Classical.byContradiction fun z => ?_
              rw [hn _ z] at post
              exact post
            · cases hf : f (ds ++ es.reverse) with
              | no => rw [hf] at post; exact post.elim
              | er e u =>
                rw [hf] at post
                exact fun F' H' C d e4 i => post a2 F' H' C d (e3.trans (Ext.of e3.fh e4)) (at_of t3 e4) i
              | ok v u =>
                rw [hf] at post
                intro F' H' x e4 i
                have e5 := e3.trans (Ext.of e3.fh e4)
                have t5 := at_of t3 e4
                cases v with
                | dat d => exact post a2 F' H' x e5 t5 i True.intro
                | own l =>
                  obtain ⟨p, ys, rfl, hp, hd2, fp, np⟩ := i
                  have rp' : ¬ c.W.reg a2 p := fun q => (c.W.off t3 q).2 np
                  exact post a2 F' H' _ e5 t5 ⟨p, ys, rfl, hp, hd2, fp, rp'⟩ ⟨p, rfl, Classical.byContradiction fun z => e12.al p z np⟩
                | tok n => exact i.elim
                | lent l => exact i.elim
          · exact post.elim
end
end CW
/-! CwRo: an object's own lists, looked at: all of its fields are read as data while an expression runs that tells flat things. -/
namespace CW
open PySem L2
/-- no list in it -/
theorem dp_flt {K : FR} {F F2 : Hp} (h : ∀ b o, F b = some o → (∀ xs, o ≠ .lst xs) → F2 b = some o) : ∀ (d : PyData) {v : V}, flt d = true → Dp K F v d → Dp K F2 v d
  | .none, _, _, h2 => by cases h2; exact .non
  | .bool b, _, _, h2 => by cases h2; exact .bl b
  | .int i, _, _, h2 => by cases h2; exact .int i
  | .str x, _, _, h2 => by cases h2; exact .str x
  | .list ds, _, z, _ => by simp [flt] at z
  | .dict ds, _, z, _ => by simp [flt] at z
  | .tuple ds, _, z, h2 => by
    cases h2 with
    | tup h3 h4 =>
      have z2 : flts ds = true := by simpa [flt] using z
      refine .tup ?_ (dps_flt h ds z2 h4)
      rcases h3 with h3 | ⟨o, h3⟩
      · exact .inl (h _ _ h3 fun xs e => by cases e)
      · exact .inr ⟨o, h _ _ h3 fun xs e => by cases e⟩
where dps_flt {K : FR} {F F2 : Hp} (h : ∀ b o, F b = some o → (∀ xs, o ≠ .lst xs) → F2 b = some o) : ∀ (ds : List PyData) {vs : List V}, flts ds = true → DpAll K F vs ds → DpAll K F2 vs ds
  | [], _, _, h2 => by cases h2; exact .nil
  | d :: ds, _, z, h2 => by
    cases h2 with
    | cons h3 h4 =>
      have z2 : flt d = true ∧ flts ds = true := by simpa [flts] using z
      exact .cons (dp_flt h d z2.1 h3) (dps_flt h ds z2.2 h4)
/-- an object that stays as it is -/
@[reducible] def WR (K : FR) (p dx C : Addr) (fs : List (Str × V)) : Wld K where
  G := List PyData
  A := Unit
  tok := fun _ n => if n = 0 then some p else none
  reg := fun _ b => b = p ∨ b = dx
  at_ := fun _ g F H => (H p = some (.ins C dx fs) ∧ H dx = some (.own p) ∧ F p = none ∧ F dx = none) ∧ DpAll K F (fs.map Prod.snd) g
  keep := fun {a g F H F' H'} h ff hr => ⟨⟨(hr p (.inl rfl)).2.trans h.1.1, (hr dx (.inr rfl)).2.trans h.1.2.1, (hr p (.inl rfl)).1, (hr dx (.inr rfl)).1⟩, dps_mono ff _ h.2⟩
  off := fun {a g F H b} h r => by
    rcases r with rfl | rfl
    · exact ⟨h.1.2.2.1, by rw [h.1.1]; simp⟩
    · exact ⟨h.1.2.2.2, by rw [h.1.2.1]; simp⟩
structure ROk (K : FR) (nm : List Str) (C : Addr) (fs : List (Str × V)) : Prop where
  cls : Cls K C
  no : ∀ f ∈ nm, NoAttr K C f
  look : ∀ (i : Nat) (f : Str), nm[i]? = some f → i < fs.length → fs.lookup f = (fs.map Prod.snd)[i]?
section
variable {K : FR} {mg mg' : Str → Option Value} {c : Str} {nm : List Str} {Wx : WX}
theorem so_rfd {p dx C : Addr} {fs : List (Str × V)} {i : Nat} {f : Str} (T : ROk K nm C fs) (hf : nm[i]? = some f) : SoundE (⟨WR K p dx C fs, mg', Wx⟩ : Ctx K) (tFld K (tVar 0) f) (sRd i) := by
  intro a0 F0 H0 a g F H s r Q rp post
  unfold sRd at post
  by_cases hs : isSelf r = true
  · rw [if_pos hs] at post
    obtain ⟨x, h1, q, h2, rfl⟩ := rp.slot 0 _ (self_of hs)
    have h2' : p = q := by simpa using h2
    subst h2'
    obtain ⟨⟨t1, t2, t3, t4⟩, t5⟩ := rp.at_
    cases hg : g[i]? with
    | none => rw [hg] at post; exact post.elim
    | some d =>
      rw [hg] at post
      obtain ⟨v, hv, hd⟩ := dps_at t5 hg
      have hi : i < fs.length := by
        have := (List.getElem?_eq_some_iff.mp hv).1
        rwa [List.length_map] at this
      exact ⟨.ref p, h1, p, C, dx, fs, v, rfl, t1, T.cls, T.no f (List.mem_of_getElem? hf), (T.look i f hf hi).trans hv, post a F H v (Ext.refl rp.sub) rp.at_ hd True.intro⟩
  · rw [if_neg hs] at post; exact post.elim
theorem fvs_dat {F H : Hp} : ∀ {vs : List V} {g : List PyData}, FvsAt K F H [] vs (g.map FV.dat) → DpAll K F vs g
  | _, [], h => by cases h; exact .nil
  | _, d :: g, h => by cases h with | dat h1 h2 => exact .cons h1 (fvs_dat h2)
/-- what an expression tells that only looks at the object -/
def roV (v : Vl) : Bool := match v with
  | .dat d => flt d
  | .own l => flts l
  | _ => false
theorem ro_run {a0 a : OA} {g : GO} {F0 H0 F H : Hp} {s : L2.St} {r : Env} {t : TE} {m : ME (List PyData)} {Q : VK} {C : Addr} {fs : List (Str × V)} (T : ClsOk K mg c nm) (rp : Rep (WO K mg c nm) a0 F0 H0 a g F H s r) (o : ObjAt K mg c nm a g F H C fs)
    (h : ∀ p dx C fs, ROk K nm C fs → SoundE (⟨WR K p dx C fs, mg', Wx⟩ : Ctx K) t m)
    (post : match m r (frzG g) with
      | .ok v _ => roV v = true ∧ ∀ F' H' x, Ext (WO K mg c nm) a F H a F' H' → ObjAt K mg c nm a g F' H' C fs → IsV (WO K mg c nm) a F' H' x v → IsN H x v → Q x H'
      | .er e _ => ∀ F' H' C' d, Ext (WO K mg c nm) a F H a F' H' → ObjAt K mg c nm a g F' H' C fs → ErrAt mg' e C' d H' → Wx C' d s H'
      | .no => False) : t s H Q := by
  classical
  obtain ⟨F2, f1, f2, f3, o3⟩ := o.frz
  obtain ⟨n1, n2, n3, n4⟩ := o.nep
  have ok : ROk K nm C fs := ⟨(T.cls C o.cls).1, (T.cls C o.cls).2, fun i f hf hi => o.look T.nd hf (by rw [← o.flen]; exact hi)⟩
  have pq : F2 a.p = none := (f2 _ n2).trans (o.fn _ (by simp [OA.all]))
  have dq : F2 a.dx = none := (f2 _ n3).trans (o.fn _ (by simp [OA.all]))
  have sub2 : ∀ b u, F2 b = some u → H b = some u := fun b u z => by
    by_cases hb : b ∈ a.qs
    · rw [f3 b hb] at z; exact z
    · rw [f2 b hb] at z; exact rp.ext.fh b u z
  let H1 : Hp := fun b => if ∃ (i : Nat) (l : List PyData), r[i]? = some (some (.own l)) ∧ s[i]? = some (some (.ref b)) then none else H b
  have own1 : ∀ (i : Nat) (l : List PyData) (b : Addr), r[i]? = some (some (.own l)) → s[i]? = some (some (.ref b)) → F b = none ∧ b ∉ a.all ∧ H b ≠ none := fun i l b hr hs => by
    obtain ⟨x, h1, q, xs, rfl, hq, _, fq, rq⟩ := rp.slot i _ hr
    rw [hs] at h1
    cases h1
    exact ⟨fq, rq, by rw [hq]; simp⟩
  have nqs : ∀ b, b ∉ a.all → b ∉ a.qs ∧ b ≠ a.p ∧ b ≠ a.dx := fun b hb => ⟨fun z => hb (by simp [OA.all, z]), fun z => hb (by simp [OA.all, z]), fun z => hb (by simp [OA.all, z])⟩
  have sub1 : ∀ b u, F2 b = some u → H1 b = some u := fun b u z => by
    have nn : ¬ ∃ (i : Nat) (l : List PyData), r[i]? = some (some (.own l)) ∧ s[i]? = some (some (.ref b)) := fun ⟨i, l, q1, q2⟩ => by
      obtain ⟨e1, e2, _⟩ := own1 i l b q1 q2
      rw [f2 b (nqs b e2).1, e1] at z
      cases z
    show (if _ then none else H b) = some u
    rw [if_neg nn]
    exact sub2 b u z
  have le1 : ∀ b, H1 b ≠ none → H1 b = H b := fun b z => by
    by_cases q : ∃ (i : Nat) (l : List PyData), r[i]? = some (some (.own l)) ∧ s[i]? = some (some (.ref b))
    · exact absurd (if_pos q) z
    · exact if_neg q
  have at2 : (WR K a.p a.dx C fs).at_ () (frzG g) F2 H := ⟨⟨o.ins, o.dic, pq, dq⟩, fvs_dat o3.val⟩
  have rp2 : Rep (WR K a.p a.dx C fs) () F2 H1 () (frzG g) F2 H s r := by
    refine ⟨⟨fun _ _ z => z, sub2, fun b z f n => ⟨f, (le1 b z).symm, n⟩, fun b z f n => f, fun b z => by rw [← le1 b z]; exact z, fun _ _ z => z⟩, at2, rp.len, fun i v hi => ?_, rp.nol, fun i l p hi hs => ⟨if_pos ⟨i, l, hi, hs⟩, (rp.own i l p hi hs).2⟩⟩
    obtain ⟨x, h1, h2⟩ := rp.slot i v hi
    refine ⟨x, h1, ?_⟩
    cases v with
    | dat d => exact dp_mono f1 _ h2
    | tok n => exact h2
    | lent l => exact absurd hi (rp.nol i l)
    | own l =>
      obtain ⟨q, xs, rfl, hq, hd, fq, rq⟩ := h2
      obtain ⟨e1, e2, e3⟩ := nqs q rq
      refine ⟨q, xs, rfl, hq, dps_mono f1 _ hd, (f2 q e1).trans fq, fun z => ?_⟩
      rcases z with z | z
      · exact e2 z
      · exact e3 z
  have fin : ∀ (F' H' : Hp) (g2 : List PyData), Ext (WR K a.p a.dx C fs) () F2 H () F' H' → (WR K a.p a.dx C fs).at_ () g2 F' H' → ∃ F3 : Hp, Ext (WO K mg c nm) a F H a F3 H' ∧ ObjAt K mg c nm a g F3 H' C fs ∧ (∀ b o, F' b = some o → (∀ xs, o ≠ .lst xs) → F3 b = some o) ∧ ∀ b, b ∉ a.qs → F3 b = F' b := by
    intro F' H' g2 e t'
    have qlst : ∀ b ∈ a.qs, H' b = H b ∧ ∃ xs, F' b = some (.lst xs) := fun b hb => by
      have hb2 : H b ≠ none := o.val.at_ b hb
      have hl : ∃ xs, H b = some (.lst xs) := by
        have : ∀ {qs : List Addr} {vs : List V} {gs : List FV}, FvsAt K F H qs vs gs → ∀ b ∈ qs, ∃ xs, H b = some (.lst xs) := fun {qs vs gs} w => by
          induction w with
          | nil => intro b hb; cases hb
          | dat _ _ ih => exact ih
          | own q _ _ ih =>
            intro b hb
            rcases List.mem_cons.mp hb with rfl | hb
            · exact ⟨_, q⟩
            · exact ih b hb
        exact this o.val b hb
      obtain ⟨xs, hx⟩ := hl
      have z := e.ff b _ ((f3 b hb).trans hx)
      exact ⟨(e.fh b _ z).trans hx.symm, xs, z⟩
    obtain ⟨⟨t1, t2, t3, t4⟩, t5⟩ := t'
    let F3 : Hp := fun b => if b ∈ a.qs then none else F' b
    have F3q : ∀ b ∈ a.qs, F3 b = none := fun b hb => if_pos hb
    have F3n : ∀ b, b ∉ a.qs → F3 b = F' b := fun b hb => if_neg hb
    have ff : ∀ b u, F b = some u → F3 b = some u := fun b u z => by
      have nb : b ∉ a.qs := fun hb => by rw [o.fn b (by simp [OA.all, hb])] at z; cases z
      rw [F3n b nb]
      exact e.ff b u (f1 b u z)
    have fnA : ∀ b ∈ a.all, F3 b = none := fun b hb => by
      simp only [OA.all, List.mem_cons] at hb
      rcases hb with rfl | rfl | hb
      · rw [F3n _ n2]; exact t3
      · rw [F3n _ n3]; exact t4
      · exact F3q b hb
    have ob : ObjAt K mg c nm a g F3 H' C fs := ⟨o.cls, t1, t2, o.key, o.cnt, o.val.mono ff fun b hb => (qlst b hb).1, o.nd, fnA⟩
    have ext : Ext (WO K mg c nm) a F H a F3 H' := by
      refine ⟨ff, fun b u z => ?_, fun b z f nr => ?_, fun b z f nr => fnA b nr, e.al, fun _ _ z => z⟩
      · by_cases hb : b ∈ a.qs
        · rw [F3q b hb] at z; cases z
        · rw [F3n b hb] at z; exact e.fh b u z
      · obtain ⟨e1, e2, e3⟩ := nqs b nr
        obtain ⟨p1, p2, _⟩ := e.st b z ((f2 b e1).trans f) fun w => by
          rcases w with w | w
          · exact e2 w
          · exact e3 w
        exact ⟨(F3n b e1).trans p1, p2, nr⟩
    refine ⟨F3, ext, ob, fun b o z w => ?_, F3n⟩
    by_cases hb : b ∈ a.qs
    · obtain ⟨xs, q⟩ := (qlst b hb).2
      rw [q] at z
      cases z
      exact absurd rfl (w xs)
    · rw [F3n b hb]; exact z
  refine h _ _ _ _ ok _ _ _ _ _ _ _ _ _ _ rp2 ?_
  cases hm : m r (frzG g) with
  | no => rw [hm] at post; exact post
  | er e0 g2 =>
    rw [hm] at post
    intro u F' H' C' d e t' i
    obtain ⟨F3, ext, ob, _⟩ := fin F' H' g2 e t'
    exact post F3 H' C' d ext ob i
  | ok v g2 =>
    rw [hm] at post
    obtain ⟨hv, k⟩ := post
    intro u F' H' x e t' i n
    obtain ⟨F3, ext, ob, down, F3n⟩ := fin F' H' g2 e t'
    refine k F3 H' x ext ob ?_ n
    cases v with
    | dat d => exact dp_flt down d hv i
    | own l =>
      obtain ⟨q, xs, rfl, hq, hd, fq, _⟩ := i
      obtain ⟨q', eq, nq⟩ := n
      cases eq
      have nA : q ∉ a.all := fun hb => (o.off q hb).2 nq
      exact ⟨q, xs, rfl, hq, dp_flt.dps_flt down l hv hd, (F3n q (nqs q nA).1).trans fq, nA⟩
    | tok n => cases hv
    | lent l => cases hv
theorem ro_run_ok {a0 a : OA} {g : GO} {F0 H0 F H : Hp} {s : L2.St} {r : Env} {t : TE} {m : ME (List PyData)} {Q : VK} {C : Addr} {fs : List (Str × V)} {v : Vl} {g2 : List PyData} (T : ClsOk K mg c nm) (rp : Rep (WO K mg c nm) a0 F0 H0 a g F H s r) (o : ObjAt K mg c nm a g F H C fs)
    (h : ∀ p dx C fs, ROk K nm C fs → SoundE (⟨WR K p dx C fs, mg', Wx⟩ : Ctx K) t m) (hm : m r (frzG g) = .ok v g2) (hv : roV v = true)
    (k : ∀ F' H' x, Ext (WO K mg c nm) a F H a F' H' → ObjAt K mg c nm a g F' H' C fs → IsV (WO K mg c nm) a F' H' x v → IsN H x v → Q x H') : t s H Q := ro_run T rp o h (by rw [hm]; exact ⟨hv, k⟩)
theorem so_ro {t : TE} {m : ME (List PyData)} (T : ClsOk K mg c nm) (h : ∀ p dx C fs, ROk K nm C fs → SoundE (⟨WR K p dx C fs, mg', Wx⟩ : Ctx K) t m) : SoundE (cO K mg c nm mg' Wx) t (sRo m) := by
  intro a0 F0 H0 a g F H s r Q rp post
  unfold sRo at post
  obtain ⟨C, fs, o⟩ := rp.at_
  refine ro_run T rp o h ?_
  cases hm : m r (frzG g) with
  | no => rw [hm] at post; exact post
  | er e u =>
    rw [hm] at post
    exact fun F' H' C' d e' ob i => post a F' H' C' d e' ⟨C, fs, ob⟩ i
  | ok v u =>
    rw [hm] at post
    by_cases hv : roV v = true
    · refine ⟨hv, fun F' H' x e ob i n => ?_⟩
      cases v with
      | dat d => have z : flt d = true := hv; simp only [z] at post; exact post a F' H' x e ⟨C, fs, ob⟩ i n
      | own l => have z : flts l = true := hv; simp only [z] at post; exact post a F' H' x e ⟨C, fs, ob⟩ i n
      | tok n => cases hv
      | lent l => cases hv
    · cases v with
      | dat d => have z : ¬ flt d = true := hv; simp only [z] at post; exact post.elim
      | own l => have z : ¬ flts l = true := hv; simp only [z] at post; exact post.elim
      | tok n => exact post.elim
      | lent l => exact post.elim
end
end CW
/-! CwRo2: an object's own lists, written; objects behind the dice. -/
namespace CW
open PySem PySem.Spec PyProof.Rows L2
/-! ### o[i] by values -/
def rGetL : V → V → Hp → VK → Prop := fun x y H Q => ∃ p xs i v, x = .ref p ∧ y = .int i ∧ H p = some (.lst xs) ∧ 0 ≤ i ∧ i < 100000 ∧ xs[i.toNat]? = some v ∧ Q v H
theorem get_list {X : Cx} : PGet X rGetL := by
  intro pins s σ H o i ov iv Q I ro ri h
  obtain ⟨p, xs, k, v, rfl, rfl, hp, h0, h1, he, q⟩ := h
  cases ro
  obtain ⟨t, rfl⟩ := ri
  obtain ⟨its, r, pl, hz⟩ := I.list (SqL.of (K := X.K) hp)
  obtain ⟨w, ew, rw'⟩ := r.get he
  exact wpAny_getItem_list pl.isList h0 (by omega) (by simpa using ew) ⟨v, H, I, rw', q⟩
/-! ### l.remove(x) over data -/
def rRemD (K : FR) : V → List V → Hp → VK → Prop := fun x vs H Q => ∃ (l : Addr) (xs : List V) (ds : List PyData) (y : V) (d : PyData) (j : Nat) (F : Hp), x = .ref l ∧ vs = [y] ∧ H l = some (.lst xs) ∧ (∀ b o, F b = some o → H b = some o) ∧ DpAll K F xs ds ∧ Dp K F y d ∧
  PyData.plainAll ds = true ∧ d.plain = true ∧ shp 12 d = true ∧ (ds.findIdx? fun e => PyData.eqv e d) = some j ∧ Q .non (upd H l (.lst (xs.eraseIdx j)))
theorem vals_erase : ∀ {vs : List V} {us : List Value} (j : Nat), Vals vs us → Vals (vs.eraseIdx j) (us.eraseIdx j)
  | _, _, _, .nil => .nil
  | _, _, 0, .cons _ t => t
  | _, _, j + 1, .cons h t => .cons h (vals_erase j t)
theorem dps_erase {K : FR} {H : Hp} : ∀ {vs : List V} {ds : List PyData} (j : Nat), DpAll K H vs ds → DpAll K H (vs.eraseIdx j) (ds.eraseIdx j)
  | _, _, _, .nil => .nil
  | _, _, 0, .cons _ t => t
  | _, _, j + 1, .cons h t => .cons h (dps_erase j t)
theorem mt_remD {X : Cx} (hu : X.A.units + 64 < cLine) : MtR X "list.remove" (rRemD X.K) := by
  intro pins s σ H x vs v us Q I rx rv h
  obtain ⟨l, xs, ds, y, d, j, F, rfl, rfl, hH, sub, hd, hy, hp1, hp2, hsh, hj, q⟩ := h
  cases rx
  obtain ⟨u, rfl, ru⟩ := rv.one
  obtain ⟨its, n, r, ho, hz⟩ := I.lst hH
  obtain ⟨as, ra⟩ := L2.Dp.readsAll I ds xs its (dps_lib ds (dps_mono sub ds hd)) r
  obtain ⟨bs, rb⟩ := L2.Dp.reads I d y u (dp_lib d (dp_mono sub d hy)) ru
  have dep := (shp_lay d 12 hsh).2
  have hlen : its.length = xs.length := r.length.symm
  have hjx : j < ds.length := by
    have := List.findIdx?_eq_some_iff_findIdx_eq.mp hj
    exact this.1
  have hds : ds.length = xs.length := (dps_len hd).symm
  refine PySem.SeqAt.remove_list_data (vs := its.toArray) ⟨_, ho, rfl, n, rfl⟩ (by simpa using ra) rb hp1 hp2 (by omega) hj (by rw [List.size_toArray]; omega) ?_
  refine ⟨.non, _, I.lstUpd (t := s.toks) (its' := its.eraseIdx j) (n' := if (its.eraseIdx j).length = its.length then n else n + 1) hH ho ?_ (vals_erase j r) (by rw [List.length_eraseIdx]; split <;> omega), rfl, q⟩
  simp [Obj.mapSeq]
/-! ### own lists are written -/
section
variable {K : FR} {mg mg' : Str → Option Value} {c : Str} {nm : List Str} {Wx : WX}
theorem Rep.fld {a0 a : OA} {g : GO} {F0 H0 F H : Hp} {s : L2.St} {r : Env} {C : Addr} {fs : List (Str × V)} {i : Nat} {l l' : List PyData} {q : Addr} {xs' : List V} (rp : Rep (WO K mg c nm) a0 F0 H0 a g F H s r) (o : ObjAt K mg c nm a g F H C fs) (hg : g[i]? = some (.own l))
    (hq : (fs.map Prod.snd)[i]? = some (.ref q)) (hqm : q ∈ a.qs) (hd : DpAll K F xs' l') : Rep (WO K mg c nm) a0 F0 H0 a (g.set i (.own l')) F (upd H q (.lst xs')) s r := by
  obtain ⟨n1, n2, n3, n4⟩ := o.nep
  have qall : q ∈ a.all := by simp [OA.all, hqm]
  have qp : a.p ≠ q := fun z => n2 (by rw [z]; exact hqm)
  have qd : a.dx ≠ q := fun z => n3 (by rw [z]; exact hqm)
  have o3 : ObjAt K mg c nm a (g.set i (.own l')) F (upd H q (.lst xs')) C fs :=
    ⟨o.cls, by rw [upd_ne qp]; exact o.ins, by rw [upd_ne qd]; exact o.dic, by rw [List.length_set]; exact o.key, by rw [List.length_set]; exact o.cnt, o.val.chg hd i n4 hq hqm ⟨l, hg⟩, o.nd, o.fn⟩
  exact rp.obj o3 rfl o.fn (fun b hb => upd_ne fun z => by subst z; exact hb qall) (fun b hb => .inl hb) fun b z => by
    by_cases eb : b = q
    · subst eb; rw [upd_same]; simp
    · rw [upd_ne eb]; exact z
theorem fld_at {a : OA} {g : GO} {F H : Hp} {C : Addr} {fs : List (Str × V)} {i : Nat} {l : List PyData} (o : ObjAt K mg c nm a g F H C fs) (hg : g[i]? = some (.own l)) : ∃ q xs, (fs.map Prod.snd)[i]? = some (.ref q) ∧ q ∈ a.qs ∧ H q = some (.lst xs) ∧ DpAll K F xs l := o.val.getO hg
theorem fld_look {a : OA} {g : GO} {F H : Hp} {C : Addr} {fs : List (Str × V)} {i : Nat} {f : Str} {v : V} (T : ClsOk K mg c nm) (hf : nm[i]? = some f) (o : ObjAt K mg c nm a g F H C fs) (hq : (fs.map Prod.snd)[i]? = some v) : fs.lookup f = some v := by
  have hi := (List.getElem?_eq_some_iff.mp hq).1
  rw [List.length_map, o.flen] at hi
  exact (o.look T.nd hf hi).trans hq
abbrev SoundRo (K : FR) (nm : List Str) (mg' : Str → Option Value) (Wx : WX) (t : TE) (m : ME (List PyData)) : Prop := ∀ p dx C fs, ROk K nm C fs → SoundE (⟨WR K p dx C fs, mg', Wx⟩ : Ctx K) t m
theorem ss_fsetIx {i : Nat} {f : Str} {t1 t2 : TE} {m1 m2 : ME (List PyData)} (T : ClsOk K mg c nm) (hf : nm[i]? = some f) (h1 : SoundRo K nm mg' Wx t1 m1) (h2 : SoundRo K nm mg' Wx t2 m2) :
    SoundS (cO K mg c nm mg' Wx) (tAsg t2 (gSub (tFld K (tVar 0) f) t1 rSetL)) (sFsetIx i m1 m2) := by
  intro a0 F0 H0 a g F H s r D rp post
  unfold sFsetIx at post
  by_cases hs : isSelf r = true
  · rw [if_pos hs] at post
    obtain ⟨x, hx, p, hp, rfl⟩ := rp.slot 0 _ (self_of hs)
    have hp' : a.p = p := by simpa using hp
    subst hp'
    obtain ⟨C, fs, o⟩ := rp.at_
    split at post
    · rename_i d u hm2
      split at post
      · rename_i j u2 hm1
        split at post
        · rename_i l hg
          split at post
          · rename_i hfl
            split at post
            · rename_i k hj
              refine ro_run_ok T rp o h2 hm2 hfl fun F1 H1 y e1 ob1 iv1 n1 => ?_
              obtain ⟨q, xs, hq, hqm, hH, hd⟩ := fld_at ob1 hg
              refine ⟨.ref a.p, hx, a.p, C, a.dx, fs, .ref q, rfl, ob1.ins, (T.cls C ob1.cls).1, (T.cls C ob1.cls).2 f (List.mem_of_getElem? hf), fld_look T hf ob1 hq, ?_⟩
              have rp1 := rp.step e1 ⟨C, fs, ob1⟩
              refine ro_run_ok T rp1 ob1 h1 hm1 rfl fun F2 H2 z e2 ob2 iv2 n2 => ?_
              have ez := dp_int iv2
              subst ez
              obtain ⟨q2, xs2, hq2, hqm2, hH2, hd2⟩ := fld_at ob2 hg
              rw [hq] at hq2
              cases hq2
              have rp2 := rp1.step e2 ⟨C, fs, ob2⟩
              refine ⟨q, xs2, j, k, rfl, rfl, hH2, by rw [dps_len hd2]; exact hj, ?_⟩
              exact post a _ _ s (rp2.fld ob2 hg hq hqm2 (dps_set (dp_mono e2.ff _ iv1) k hd2)) fun b w z => e2.ff b w (e1.ff b w z)
            · exact post.elim
          · exact post.elim
        · exact post.elim
      · exact post.elim
    · exact post.elim
  · rw [if_neg hs] at post; exact post.elim
theorem ss_faugIx {i : Nat} {f : Str} {t1 t2 : TE} {m1 m2 : ME (List PyData)} (T : ClsOk K mg c nm) (hf : nm[i]? = some f) (h1 : SoundRo K nm mg' Wx t1 m1) (h2 : SoundRo K nm mg' Wx t2 m2) :
    SoundS (cO K mg c nm mg' Wx) (tAugS (tFld K (tVar 0) f) t1 t2 rGetL (ipI fun i j => i + j) rSetL) (sFaugIx i m1 m2) := by
  intro a0 F0 H0 a g F H s r D rp post
  unfold sFaugIx at post
  by_cases hs : isSelf r = true
  · rw [if_pos hs] at post
    obtain ⟨x, hx, p, hp, rfl⟩ := rp.slot 0 _ (self_of hs)
    have hp' : a.p = p := by simpa using hp
    subst hp'
    obtain ⟨C, fs, o⟩ := rp.at_
    split at post
    · rename_i j u hm1
      split at post
      · rename_i b u2 hm2
        split at post
        · rename_i l hg
          split at post
          · rename_i hj
            split at post
            · rename_i x0 hx0
              obtain ⟨q, xs, hq, hqm, hH, hd⟩ := fld_at o hg
              refine ⟨.ref a.p, hx, a.p, C, a.dx, fs, .ref q, rfl, o.ins, (T.cls C o.cls).1, (T.cls C o.cls).2 f (List.mem_of_getElem? hf), fld_look T hf o hq, ?_⟩
              refine ro_run_ok T rp o h1 hm1 rfl fun F1 H1 y e1 ob1 iv1 n1 => ?_
              have ey := dp_int iv1
              subst ey
              have rp1 := rp.step e1 ⟨C, fs, ob1⟩
              obtain ⟨q1, xs1, hq1, hqm1, hH1, hd1⟩ := fld_at ob1 hg
              rw [hq] at hq1
              cases hq1
              obtain ⟨w, hw, hdw⟩ := dps_at hd1 hx0
              have ew := dp_int hdw
              subst ew
              refine ⟨q, xs1, j, _, rfl, rfl, hH1, hj.1, hj.2, hw, ?_⟩
              refine ro_run_ok T rp1 ob1 h2 hm2 rfl fun F2 H2 z e2 ob2 iv2 n2 => ?_
              have ez := dp_int iv2
              subst ez
              obtain ⟨q2, xs2, hq2, hqm2, hH2, hd2⟩ := fld_at ob2 hg
              rw [hq] at hq2
              cases hq2
              have rp2 := rp1.step e2 ⟨C, fs, ob2⟩
              have hlt := (List.getElem?_eq_some_iff.mp hx0).1
              refine ⟨x0, b, rfl, rfl, q, xs2, j, j.toNat, rfl, rfl, hH2, ?_, ?_⟩
              · rw [dps_len hd2]
                unfold ixN
                rw [if_pos hj.1, if_pos (by omega)]
              · exact post a _ _ s (rp2.fld ob2 hg hq hqm2 (dps_set (.int _) j.toNat hd2)) fun b w z => e2.ff b w (e1.ff b w z)
            · exact post.elim
          · exact post.elim
        · exact post.elim
      · exact post.elim
    · exact post.elim
  · rw [if_neg hs] at post; exact post.elim
theorem ss_faug {i : Nat} {f : Str} {t : TE} {m : ME (List PyData)} (T : ClsOk K mg c nm) (hf : nm[i]? = some f) (h : SoundRo K nm mg' Wx t m) :
    SoundS (cO K mg c nm mg' Wx) (sFldAug K (tVar 0) t rAdd f) (sFaug i m) := by
  intro a0 F0 H0 a g F H s r D rp post
  unfold sFaug at post
  by_cases hs : isSelf r = true
  · rw [if_pos hs] at post
    obtain ⟨x, hx, p, hp, rfl⟩ := rp.slot 0 _ (self_of hs)
    have hp' : a.p = p := by simpa using hp
    subst hp'
    obtain ⟨C, fs, o⟩ := rp.at_
    split at post
    · rename_i b u hm
      split at post
      · rename_i x0 hg
        obtain ⟨v, hv, hdv⟩ := o.val.getD hg
        have ev := dp_int hdv
        subst ev
        have hi := (List.getElem?_eq_some_iff.mp hg).1
        refine ⟨.ref a.p, hx, a.p, C, a.dx, fs, .int x0, rfl, o.ins, (T.cls C o.cls).1, (T.cls C o.cls).2 f (List.mem_of_getElem? hf), fld_look T hf o hv, ?_⟩
        refine ro_run_ok T rp o h hm rfl fun F1 H1 y e1 ob1 iv1 n1 => ?_
        have ey := dp_int iv1
        subst ey
        have rp1 := rp.step e1 ⟨C, fs, ob1⟩
        have lt : fs.length < 1000 := by rw [o.flen]; exact Nat.lt_of_le_of_lt o.cnt T.le
        refine ⟨x0, b, rfl, rfl, a.dx, fs, ob1.ins, lt, ?_⟩
        have hset : setF i (.dat (.int (x0 + b))) g = some (g.set i (.dat (.int (x0 + b)))) := by
          unfold setF
          rw [if_pos hi]
        obtain ⟨a2, q1, q2, o2⟩ := ob1.setD T.nd hf (.int (x0 + b)) hset
        refine post a2 _ _ s (rp1.obj o2 q1 ob1.fn (fun b hb => upd_ne fun z => by subst z; exact hb (by simp [OA.all])) (fun b hb => .inl (q2 b hb)) fun b z => ?_) fun b w z => e1.ff b w z
        by_cases eb : b = a.p
        · subst eb; rw [upd_same]; simp
        · rw [upd_ne eb]; exact z
      · exact post.elim
    · exact post.elim
  · rw [if_neg hs] at post; exact post.elim
theorem ss_frem {i : Nat} {f : Str} {t : TE} {m : ME (List PyData)} (T : ClsOk K mg c nm) (hf : nm[i]? = some f) (h : SoundRo K nm mg' Wx t m) :
    SoundS (cO K mg c nm mg' Wx) (tDrop (tBM K "list" (rRemD K) (tFld K (tVar 0) f) (tCons t tNil))) (sFrem i m) := by
  intro a0 F0 H0 a g F H s r D rp post
  unfold sFrem at post
  by_cases hs : isSelf r = true
  · rw [if_pos hs] at post
    obtain ⟨x, hx, p, hp, rfl⟩ := rp.slot 0 _ (self_of hs)
    have hp' : a.p = p := by simpa using hp
    subst hp'
    obtain ⟨C, fs, o⟩ := rp.at_
    split at post
    · rename_i d u hm
      split at post
      · rename_i l hg
        split at post
        · rename_i hc
          split at post
          · rename_i j hj
            obtain ⟨q, xs, hq, hqm, hH, hd⟩ := fld_at o hg
            refine ⟨.ref a.p, hx, a.p, C, a.dx, fs, .ref q, rfl, o.ins, (T.cls C o.cls).1, (T.cls C o.cls).2 f (List.mem_of_getElem? hf), fld_look T hf o hq, .inl ⟨rfl, xs, SqL.of hH⟩, ?_⟩
            refine ro_run_ok T rp o h hm hc.1 fun F1 H1 y e1 ob1 iv1 n1 => ?_
            have rp1 := rp.step e1 ⟨C, fs, ob1⟩
            obtain ⟨q1, xs1, hq1, hqm1, hH1, hd1⟩ := fld_at ob1 hg
            rw [hq] at hq1
            cases hq1
            refine ⟨q, xs1, l, y, d, j, F1, rfl, rfl, hH1, rp1.ext.fh, hd1, iv1, hc.2.1, hc.2.2.1, hc.2.2.2, hj, ?_⟩
            exact post a _ _ s (rp1.fld ob1 hg hq hqm1 (dps_erase j hd1)) fun b w z => e1.ff b w z
          · exact post.elim
        · exact post.elim
      · exact post.elim
    · exact post.elim
  · rw [if_neg hs] at post; exact post.elim
end
/-! ### objects that go on changing, behind the dice -/
section
variable {K : FR} {mg : Str → Option Value} {c : Str} {nm : List Str} {W0 : Wld K} {Wx : WX}
theorem so_newC {n : Nat} {f : List PyData → GO → R Vl GO} {ta : TA} {ma : MA (GM W0.G)} (hn : ∀ ds g, ds.length + 1 ≠ n → f ds g = .no) (hC : ∃ C, mg c = some (.ref C)) (ha : SoundA (cM K mg c nm W0 Wx) ta ma) :
    SoundE (cM K mg c nm W0 Wx) (tMakeC mg c (spT (WO K mg c nm) mg 0 n f) ta) (sNewC f ma) := by
  intro a0 F0 H0 a g F H s r Q rp post
  unfold sNewC at post
  obtain ⟨C, hC⟩ := hC
  refine ⟨C, hC, ha _ _ _ _ _ _ _ _ _ _ rp ?_⟩
  cases h : ma r g with
  | no => rw [h] at post; exact post
  | er e g1 => rw [h] at post; exact post
  | ok vs g1 =>
    rw [h] at post
    simp only [R.bind_ok] at post
    intro a1 F1 H1 xs e1 t1 i1 x dx nx nd nex
    cases h2 : frzAll vs with
    | none => rw [h2] at post; exact post.elim
    | some ds =>
      rw [h2] at post
      simp only at post
      have hd := frz_dps (c := cM K mg c nm W0 Wx) i1 h2
      have e2 := letGo_ext (c := cM K mg c nm W0 Wx) e1
      have t2 := letGo_at (c := cM K mg c nm W0 Wx) e1 t1
      generalize letGo (((cM K mg c nm W0 Wx).W.reg a1)) H F1 H1 = F2 at hd e2 t2
      have fx : F2 x = none := by
        cases q : F2 x with
        | none => rfl
        | some o => rw [e2.fh x o q] at nx; cases nx
      have fd : F2 dx = none := by
        cases q : F2 dx with
        | none => rfl
        | some o => rw [e2.fh dx o q] at nd; cases nd
      have sub2 : ∀ b o, F2 b = some o → upd (upd H1 dx (.own x)) x (.ins C dx []) b = some o := fun b o z => by
        rw [upd_ne (ne_of_none z fx), upd_ne (ne_of_none z fd)]
        exact e2.fh b o z
      have ob : ObjAt K mg c nm ⟨x, dx, []⟩ [] F2 (upd (upd H1 dx (.own x)) x (.ins C dx [])) C [] := by
        refine ⟨hC, upd_same, by rw [upd_ne nex]; exact upd_same, rfl, Nat.zero_le _, .nil, ?_, fun b hb => ?_⟩
        · simp [OA.all, Ne.symm nex]
        · simp only [OA.all, List.mem_cons, List.not_mem_nil, or_false] at hb
          rcases hb with rfl | rfl
          · exact fx
          · exact fd
      refine ⟨?_, ⟨x, dx, []⟩, [], F2, x, xs, ds, by rw [List.append_nil], by simp, sub2, ⟨C, [], ob⟩, hd, ?_⟩
      · rw [List.append_nil, List.length_cons, dps_len hd]
        refine Classical.byContradiction fun z => ?_
        rw [hn ds [] z] at post
        exact post
      · cases hf : f ds [] with
        | no => rw [hf] at post; exact post.elim
        | er e g2 => rw [hf] at post; exact post.elim
        | ok v o =>
          rw [hf] at post
          cases v with
          | own l => exact post.elim
          | lent l => exact post.elim
          | tok k => exact post.elim
          | dat d =>
            cases d with
            | none =>
              intro a' F' H' y e3 t3 i n3
              have ey : y = .non := by cases i; rfl
              refine ⟨ey, ?_⟩
              obtain ⟨C', fs, o'⟩ := t3
              have hp : a'.p = x := by
                have := e3.tk 0 x (by simp)
                simpa using this
              have mk := made_new (W0 := W0) (o3 := o) (F3 := F') e2.fh t2 nx nd e3 (fun _ _ z => z) e3.fh (fun _ _ => rfl) (a3 := a') (fun _ z => z) o'
              refine post _ F' H' (.ref x) (e2.trans mk.1) mk.2 ⟨x, ?_, rfl⟩ True.intro
              show ((a1.2 ++ [a'])[g1.2.length]?).map OA.p = some x
              have hl : a1.2.length = g1.2.length := t2.2.1
              rw [← hl]
              simp [hp]
            | _ => exact post.elim
theorem so_callTM {n0 n : Nat} {f : List PyData → W0.G → R Vl W0.G} {ta : TA} {ma : MA (GM W0.G)} (h01 : n0 = 0 ∨ n0 = 1) (hto : ∀ (a : W0.A) (k : Nat) (p : Addr), W0.tok a k = some p → k = 0 ∨ k = 1) (hn : ∀ ds g, ds.length + 1 ≠ n → f ds g = .no) (ha : SoundA (cM K mg c nm W0 Wx) ta ma) :
    SoundE (cM K mg c nm W0 Wx) (tCallSD (spT W0 mg n0 n f) [] (fun s => WE Wx s) ta) (sCallTM n0 f ma) := by
  intro a0 F0 H0 a g F H s r Q rp post
  refine ha _ _ _ _ _ _ _ _ _ _ rp ?_
  unfold sCallTM at post
  cases h : ma r g with
  | no => rw [h] at post; exact post
  | er e g1 => rw [h] at post; exact post
  | ok vs g1 =>
    rw [h] at post
    simp only [R.bind_ok] at post
    intro a1 F1 H1 xs e1 t1 i1
    cases i1 with
    | nil => exact post.elim
    | cons iv nv dv tv =>
      rename_i x xs v vs
      cases v with
      | tok k =>
        simp only at post
        by_cases hk : k = n0
        · subst hk
          rw [if_pos rfl] at post
          obtain ⟨p, hp, rfl⟩ := iv
          cases h2 : frzAll vs with
          | none => rw [h2] at post; exact post.elim
          | some ds =>
            rw [h2] at post
            simp only at post
            have hd := frz_dps (c := cM K mg c nm W0 Wx) tv h2
            have e2 := letGo_ext (c := cM K mg c nm W0 Wx) e1
            have t2 := letGo_at (c := cM K mg c nm W0 Wx) e1 t1
            generalize letGo (((cM K mg c nm W0 Wx).W.reg a1)) H F1 H1 = F2 at hd e2 t2
            have hp0 : W0.tok a1.1 k = some p := by
              rcases h01 with rfl | rfl
              · exact hp
              · exact hp
            obtain ⟨u1, u2, u3, u4, u5⟩ := t2
            have obj : ∀ o ∈ a1.2, ∀ b ∈ o.all, F2 b = none ∧ H1 b ≠ none := fun o ho b hb => by
              obtain ⟨i, hi⟩ := List.mem_iff_getElem?.mp ho
              have hl := (List.getElem?_eq_some_iff.mp hi).1
              obtain ⟨C, fs, ob⟩ := u3 i o _ hi (List.getElem?_eq_getElem (by omega))
              exact ob.off b hb
            have up : ∀ {b1 : W0.A} {g2 : W0.G} {F' H' : Hp}, Ext W0 a1.1 F2 H1 b1 F' H' → W0.at_ b1 g2 F' H' → Ext (WM K mg c nm W0) a1 F2 H1 (b1, a1.2) F' H' ∧ (WM K mg c nm W0).at_ (b1, a1.2) (g2, g1.2) F' H' := fun {b1 g2 F' H'} e t => by
              have stay : ∀ o ∈ a1.2, ∀ b ∈ o.all, F' b = none ∧ H' b = H1 b ∧ ¬ W0.reg b1 b := fun o ho b hb => e.st b (obj o ho b hb).2 (obj o ho b hb).1 (u5 o ho b hb)
              refine ⟨⟨e.ff, e.fh, fun b z f nr => ?_, fun b z f nr => ?_, e.al, fun i b z => ?_⟩, t, u2, fun i o fv hi hg => ?_, u4, fun o ho b hb => (stay o ho b hb).2.2⟩
              · obtain ⟨p1, p2, p3⟩ := e.st b z f fun q => nr (.inl q)
                exact ⟨p1, p2, fun q => q.elim p3 fun q => nr (.inr q)⟩
              · by_cases q : W0.reg a1.1 b
                · exact e.rg b z f q
                · exact (e.st b z f q).1
              · match i, z with
                | 0, z => exact e.tk 0 b z
                | 1, z => exact e.tk 1 b z
                | n + 2, z => exact z
              · obtain ⟨C, fs, ob⟩ := u3 i o fv hi hg
                exact ⟨C, fs, ob.keep e.ff fun b hb => let ⟨p1, p2, _⟩ := stay o (List.mem_of_getElem? hi) b hb; ⟨p1, p2⟩⟩
            refine ⟨?_, a1.1, g1.1, F2, p, xs, ds, by rw [List.append_nil], hp0, e2.fh, u1, hd, ?_⟩
            · rw [List.append_nil, List.length_cons, dps_len hd]
              refine Classical.byContradiction fun z => ?_
              rw [hn ds g1.1 z] at post
              exact post
            · cases hf : f ds g1.1 with
              | no => rw [hf] at post; exact post.elim
              | er e g2 =>
                rw [hf] at post
                exact fun a' F' H' C d e3 t3 i => let ⟨w1, w2⟩ := up e3 t3; post _ F' H' C d (e2.trans w1) w2 i
              | ok v g2 =>
                rw [hf] at post
                intro a' F' H' y e3 t3 i n3
                obtain ⟨w1, w2⟩ := up e3 t3
                cases v with
                | dat d => exact post _ F' H' y (e2.trans w1) w2 i True.intro
                | tok m =>
                  obtain ⟨q, hq, rfl⟩ := i
                  refine post _ F' H' _ (e2.trans w1) w2 ?_ True.intro
                  rcases hto _ _ _ hq with rfl | rfl
                  · exact ⟨q, hq, rfl⟩
                  · exact ⟨q, hq, rfl⟩
                | own l =>
                  have n4 := n3.back e2.al
                  obtain ⟨q, ys, rfl, hq, hdy, fq, rq⟩ := i
                  obtain ⟨q', eq, nq⟩ := n3
                  cases eq
                  refine post _ F' H' _ (e2.trans w1) w2 ⟨q, ys, rfl, hq, hdy, fq, fun z => ?_⟩ n4
                  rcases z with z | ⟨o, ho, hb⟩
                  · exact rq z
                  · exact (obj o ho q hb).2 nq
                | lent l => exact post.elim
        · rw [if_neg hk] at post; exact post.elim
      | _ => exact post.elim
end
theorem law_okM {K : FR} {mg : Str → Option Value} {c : Str} {nm : List Str} {N : List Str} {t : TS} {m : MS (GM DG)} (h : SoundS (cM K mg c nm (WD K) (fun _ _ _ _ => False)) t m) (tr : ∀ ns : List Int, ns.length ≤ 63 → ∃ g', runT 0 0 N.length m [] (⟨ns, none⟩, []) = .ok (.dat (.bool true)) g')
    {vs : List V} {H : Hp} {Q : VK} {E : XK} (sp : spLaw K vs H Q E) : t { nx := fun _ H' => Q .non H', rt := Q } (L2.start N vs) H := by
  obtain ⟨a, ns, rfl, hS, hl, k⟩ := sp
  obtain ⟨g', hg⟩ := tr ns hl
  refine bodyT_ok (W := WM K mg c nm (WD K)) (mg := mg) (E := fun _ _ _ => False) (n0 := 0) (k := 0) (fun _ _ _ _ z => z) h ⟨rfl, ((a, none), []), (⟨ns, none⟩, []), H, a, [], [], rfl, rfl, fun _ _ z => z, ⟨⟨hS, Nat.le_trans hl (by decide), True.intro⟩, rfl, fun i o fv hi _ => by simp at hi, fun i j oi oj _ hi _ => by simp at hi, fun o ho => by simp at ho⟩, .nil, ?_⟩
  rw [hg]
  intro a' F' H' x e t i n
  have e2 := dp_bool i
  subst e2
  exact k H'
theorem tokD {K : FR} (a : (WD K).A) (k : Nat) (p : Addr) (h : (WD K).tok a k = some p) : k = 0 ∨ k = 1 := by
  match k, h with
  | 0, _ => exact .inl rfl
  | 1, _ => exact .inr rfl
  | n + 2, h => cases h
/-! three things by a tuple -/
section
variable {K : FR} {c : Ctx K}
theorem ss_tup3 {i j k : Nat} {ta : TA} {ma : MA c.W.G} (ha : SoundA c ta ma) : SoundS c (tAsg (tTup ta) (gAny K 3 (gCons (gName i) (gCons (gName j) (gCons (gName k) gNil))))) (sPar3 i j k ma) := by
  intro a0 F0 H0 a g F H s r D rp post
  refine ha _ _ _ _ _ _ _ _ _ _ rp ?_
  unfold sPar3 at post
  cases hm : ma r g with
  | no => rw [hm] at post; exact post
  | er e g1 =>
    rw [hm] at post
    exact fun a' F' H' C d e' t i => post a' F' H' s C d (rp.step e' t) i
  | ok vs g1 =>
    rw [hm] at post
    simp only [R.out_ok] at post
    intro a1 F1 H1 xs e1 t1 i1
    have rp1 := rp.step e1 t1
    cases i1 with
    | nil => exact post.elim
    | cons iu n1 d1 t =>
      rename_i x xs u us
      cases t with
      | nil => exact post.elim
      | cons iv n2 d2 t2 =>
        rename_i y ys v vs
        cases t2 with
        | nil => exact post.elim
        | cons iw n3 d3 t3 =>
          rename_i z zs w ws
          cases t3 with
          | cons _ _ _ _ => exact post.elim
          | nil =>
            refine ⟨(by decide : (3 : Nat) ≤ sizeLine), fun p hp => .inl ⟨p, [x, y, z], rfl, .inl (Rd.of upd_same), rfl, x, [y, z], rfl, y, [z], rfl, z, [], rfl, rfl, ?_⟩⟩
            have pe2 : PExt F1 H1 F1 (upd H1 p (.tup [x, y, z])) := PExt.own rp1.sub hp
            have key : (∀ l, u ≠ .lent l) → (∀ l, v ≠ .lent l) → (∀ l, w ≠ .lent l) → Rep c.W a0 F0 H0 a1 g1 F1 H1 (((s.set i (some x)).set j (some y)).set k (some z)) (((r.set i (some u)).set j (some v)).set k (some w)) := fun nu nv nw => by
              have q1 := rp1.set (i := i) iu (NewTo.of rp e1 n1) nu
              have m2 : NewTo H0 (s.set i (some x)) (r.set i (some u)) y v := (NewTo.of rp e1 n2).put rp.len fun p l hu hx m hv hy => d1 p l hu hx 0 m (by simp [hv]) (by simp [hy])
              have m3 : NewTo H0 (s.set i (some x)) (r.set i (some u)) z w := (NewTo.of rp e1 n3).put rp.len fun p l hu hx m hw hz => d1 p l hu hx 1 m (by simp [hw]) (by simp [hz])
              have q2 := q1.set (i := j) iv m2 nv
              exact q2.set (i := k) iw (m3.put q1.len fun p l hv hy m hw hz => d2 p l hv hy 0 m (by simp [hw]) (by simp [hz])) nw
            cases u with
            | lent l => exact post.elim
            | _ =>
              cases v with
              | lent l => exact post.elim
              | _ =>
                cases w with
                | lent l => exact post.elim
                | _ => exact post a1 F1 _ _ ((key (fun _ e => by cases e) (fun _ e => by cases e) (fun _ e => by cases e)).step (Ext.of rp1.sub pe2) (at_of t1 pe2)) e1.ff
end
/-! calls while the object is looked at -/
section
variable {K : FR} {p dx C : Addr} {fs : List (Str × V)} {mg : Str → Option Value} {Wx : WX}
theorem so_callR {n : Nat} {f : List PyData → R Vl Unit} {ta : TA} {ma : MA (List PyData)} (hn : ∀ ds, ds.length ≠ n → f ds = .no) (ha : SoundA (⟨WR K p dx C fs, mg, Wx⟩ : Ctx K) ta ma) :
    SoundE (⟨WR K p dx C fs, mg, Wx⟩ : Ctx K) (tCallSD (spP K mg n f) [] (fun s => WE Wx s) ta) (sCallP f ma) := so_callP (c := (⟨WR K p dx C fs, mg, Wx⟩ : Ctx K)) rfl hn ha
theorem so_callPDR {n : Nat} {f : List PyData → R Vl Unit} {ta : TA} {ma : MA (List PyData)} {dvs : List V} {dd : List PyData} (hdd : ∀ F : Hp, DpAll K F dvs dd) (hn : ∀ ds, ds.length ≠ n → f ds = .no) (ha : SoundA (⟨WR K p dx C fs, mg, Wx⟩ : Ctx K) ta ma) :
    SoundE (⟨WR K p dx C fs, mg, Wx⟩ : Ctx K) (tCallSD (spP K mg n f) dvs (fun s => WE Wx s) ta) (sCallP (fun ds => f (ds ++ dd)) ma) := so_callPD (c := (⟨WR K p dx C fs, mg, Wx⟩ : Ctx K)) hdd rfl hn ha
end
end CW
/-! CwZip3: zip of three lists or tuples. -/
namespace CW
open PySem PySem.Spec PyProof.Rows L2
def ItzK3 (k1 k2 k3 : Bool) (a b c : Addr) : It :=
  ⟨fun i H => ∃ (xs ys ws : List V) (x y w : V), Src k1 H a xs ∧ Src k2 H b ys ∧ Src k3 H c ws ∧ xs[i]? = some x ∧ ys[i]? = some y ∧ ws[i]? = some w,
    fun i H v H' => ∃ T x y w, v = .ref T ∧ H T = none ∧ H' = upd H T (.tup [x, y, w]) ∧ (∀ xs, Src k1 H a xs → xs[i]? = some x) ∧ (∀ ys, Src k2 H b ys → ys[i]? = some y) ∧ ∀ ws, Src k3 H c ws → ws[i]? = some w,
    fun i H => ∃ xs ys ws : List V, Src k1 H a xs ∧ Src k2 H b ys ∧ Src k3 H c ws ∧ i ≤ xs.length ∧ i ≤ ys.length ∧ i ≤ ws.length ∧ (xs.length = i ∨ ys.length = i ∨ ws.length = i)⟩
structure Apart3 (z TI TO i1 i2 i3 : Addr) : Prop where
  a1 : TI ≠ z
  a2 : TO ≠ z
  a3 : TI ≠ TO
  a4 : TI ≠ i1
  a5 : TI ≠ i2
  a6 : TI ≠ i3
  a7 : z ≠ i1
  a8 : z ≠ i2
  a9 : z ≠ i3
  b1 : TO ≠ i1
  b2 : TO ≠ i2
  b3 : TO ≠ i3
  b4 : i1 ≠ i2
  b5 : i1 ≠ i3
  b6 : i2 ≠ i3
theorem Apart3.sep {z TI TO i1 i2 i3 a b c : Addr} (D : Apart3 z TI TO i1 i2 i3) (na : ∀ d, d ∈ [z, TI, TO, i1, i2, i3] → a ≠ d) (nb : ∀ d, d ∈ [z, TI, TO, i1, i2, i3] → b ≠ d) (nc : ∀ d, d ∈ [z, TI, TO, i1, i2, i3] → c ≠ d) : ZipSep3 z TI TO i1 i2 i3 [i1, a] [i2, b] [i3, c] where
  TIz := D.a1
  TOz := D.a2
  TITO := D.a3
  TIi1 := D.a4
  mem1 := by simp
  zf1 := by simp [D.a7, Ne.symm (na z (by simp))]
  Tf1 := by simp [D.b1, Ne.symm (na TO (by simp))]
  TIi2 := D.a5
  mem2 := by simp
  zf2 := by simp [D.a8, Ne.symm (nb z (by simp))]
  Tf2 := by simp [D.b2, Ne.symm (nb TO (by simp))]
  TIi3 := D.a6
  mem3 := by simp
  zf3 := by simp [D.a9, Ne.symm (nc z (by simp))]
  Tf3 := by simp [D.b3, Ne.symm (nc TO (by simp))]
  sep1_2 := by simp [D.b4, Ne.symm (nb i1 (by simp))]
  sep1_3 := by simp [D.b5, Ne.symm (nc i1 (by simp))]
  sep2_1 := by simp [Ne.symm D.b4, Ne.symm (na i2 (by simp))]
  sep2_3 := by simp [D.b6, Ne.symm (nc i2 (by simp))]
  sep3_1 := by simp [Ne.symm D.b5, Ne.symm (na i3 (by simp))]
  sep3_2 := by simp [Ne.symm D.b6, Ne.symm (nb i3 (by simp))]
theorem turn_zipK3 {P : Program} {w : World} {K : FR} {elts : List Expr} {kk : Nat} {tpos : Pos} (k1 k2 k3 : Bool) {a b c z TI TO i1 i2 i3 : Addr} (D : Apart3 z TI TO i1 i2 i3) :
    Turn P w K (.Tuple elts kk tpos) (ItzK3 k1 k2 k3 a b c) [z, TI, TO, i1, i2, i3] z (fun i h => IsZip h z TI TO .none ∧ IsTupOf3 h TI (.ref i1) (.ref i2) (.ref i3) ∧ (∃ x y v, IsTupOf3 h TO x y v) ∧ SrcIt k1 h i1 a i ∧ SrcIt k2 h i2 b i ∧ SrcIt k3 h i3 c i) where
  mem := by simp
  obj := fun i h st d hd => by
    obtain ⟨hz, hTI, ⟨x, y, v, hTO⟩, h1, h2, h3⟩ := st
    have e' : d = z ∨ d = TI ∨ d = TO ∨ d = i1 ∨ d = i2 ∨ d = i3 := by simpa using hd
    rcases e' with q | q | q | q | q | q
    · rw [q]; exact ⟨_, hz, fun v q => nomatch q⟩
    · rw [q]; exact ⟨_, hTI, fun v q => nomatch q⟩
    · rw [q]; exact ⟨_, hTO, fun v q => nomatch q⟩
    · rw [q]; exact srcIt_obj h1
    · rw [q]; exact srcIt_obj h2
    · rw [q]; exact srcIt_obj h3
  keep := fun i h h' st k => by
    obtain ⟨hz, hTI, ⟨x, y, v, hTO⟩, h1, h2, h3⟩ := st
    exact ⟨k z (by simp) _ hz, k TI (by simp) _ hTI, ⟨x, y, v, k TO (by simp) _ hTO⟩, srcIt_at h1 fun o q => k i1 (by simp) o q, srcIt_at h2 fun o q => k i2 (by simp) o q, srcIt_at h3 fun o q => k i3 (by simp) o q⟩
  item := by
    intro X hP hw hK hc i pins s σ H E I hf st hg
    subst hP hw hK
    obtain ⟨hz, hTI, ⟨x0, y0, v0, hTO⟩, h1, h2, h3⟩ := st
    obtain ⟨xs, ys, ws, x, y, v, hqx, hqy, hqw, hx, hy, hv⟩ := hg
    obtain ⟨its, rv, p⟩ := src_at I hqx
    obtain ⟨its2, rv2, p2⟩ := src_at I hqy
    obtain ⟨its3, rv3, p3⟩ := src_at I hqw
    obtain ⟨u, hu, ru⟩ := rv.get hx
    obtain ⟨u2, hu2, ru2⟩ := rv2.get hy
    obtain ⟨u3, hu3, ru3⟩ := rv3.get hv
    have hzl : z < s.heap.objs.size := Heap.lt_size hz
    have na : ∀ d, d ∈ [z, TI, TO, i1, i2, i3] → a ≠ d := fun d hcm q => src_some hqx (by rw [q]; exact (hf d hcm).1)
    have nb : ∀ d, d ∈ [z, TI, TO, i1, i2, i3] → b ≠ d := fun d hcm q => src_some hqy (by rw [q]; exact (hf d hcm).1)
    have nc : ∀ d, d ∈ [z, TI, TO, i1, i2, i3] → c ≠ d := fun d hcm q => src_some hqw (by rw [q]; exact (hf d hcm).1)
    have S := D.sep na nb nc
    have l1 : i < its.toArray.size := by
      have := (List.getElem?_eq_some_iff.mp hu).1
      simpa using this
    have l2 : i < its2.toArray.size := by
      have := (List.getElem?_eq_some_iff.mp hu2).1
      simpa using this
    have l3 : i < its3.toArray.size := by
      have := (List.getElem?_eq_some_iff.mp hu3).1
      simpa using this
    refine wpAny_pyNext_zipD3_item S (src_draws (k := k1) (A := X.A.in1) (I.ok.hd hc) i1 (na i1 (by simp)) its.toArray) (src_draws (k := k2) (A := X.A.in1) (I.ok.hd hc) i2 (nb i2 (by simp)) its2.toArray) (src_draws (k := k3) (A := X.A.in1) (I.ok.hd hc) i3 (nc i3 (by simp)) its3.toArray) hz hTI hTO ⟨h1, p⟩ ⟨h2, p2⟩ ⟨h3, p3⟩ l1 l2 l3 fun v1 v2 v3 h' tk hP1 hP2 hP3 z' TO' st1 st2 st3 hT hsz hk => ?_
    have e1 : v1 = u := by
      have q : its.toArray[i]? = some u := by simpa using hu
      rw [q] at hP1
      exact (Option.some.inj hP1).symm
    have e2 : v2 = u2 := by
      have q : its2.toArray[i]? = some u2 := by simpa using hu2
      rw [q] at hP2
      exact (Option.some.inj hP2).symm
    have e3 : v3 = u3 := by
      have q : its3.toArray[i]? = some u3 := by simpa using hu3
      rw [q] at hP3
      exact (Option.some.inj hP3).symm
    subst e1 e2 e3
    refine ⟨_, rfl, wpAny_letOwnedTupleGo_zip (s := { s with heap := h', toks := tk }) z' fun h'' z'' sb => ?_⟩
    have hT2 : h''.get? s.heap.objs.size = some { cls := .type "tuple", data := .seq #[v1, v2, v3] } := (sb.2 _ (Nat.ne_of_gt hzl)).trans hT
    have new : ObjOk X.prog X.w (upd H s.heap.objs.size (.tup [x, y, v])) h'' s.heap.objs.size (.tup [x, y, v]) :=
      ⟨by show 3 ≤ sizeLine; decide, [v1, v2, v3], .cons ru (.cons ru2 (.cons ru3 .nil)), ⟨_, hT2, rfl, _, rfl⟩⟩
    have I1 : Inv X pins σ (upd H s.heap.objs.size (.tup [x, y, v])) { s with heap := h'', toks := tk } :=
      I.turnedNew (ch := [z, TI, TO, i1, i2, i3]) (fun c o hb q => (sb.2 c (fun q' => hb (by simp [q']))).trans (hk c o (fun q' => hb (by simp [q'])) (fun q' => hb (by simp [q'])) (fun q' => hb (by simp [q'])) (fun q' => hb (by simp [q'])) (fun q' => hb (by simp [q'])) q)) hf (Nat.le_refl _) new
    refine ⟨.ref s.heap.objs.size, _, I1, rfl, ⟨_, x, y, v, rfl, I.hok.fresh (Nat.le_refl _), rfl, fun l hl => by rw [src_inj hl hqx]; exact hx, fun l hl => by rw [src_inj hl hqy]; exact hy, fun l hl => by rw [src_inj hl hqw]; exact hv⟩, ⟨z'', ?_, ⟨v1, v2, v3, ?_⟩, ?_, ?_, ?_⟩, fun c hcm => ?_⟩
    · exact (sb.2 _ D.a1).trans (hk _ _ D.a1 D.a3 D.a4 D.a5 D.a6 hTI)
    · exact (sb.2 _ D.a2).trans TO'
    · exact srcIt_at st1.1 fun o q => (sb.2 _ (Ne.symm D.a7)).trans q
    · exact srcIt_at st2.1 fun o q => (sb.2 _ (Ne.symm D.a8)).trans q
    · exact srcIt_at st3.1 fun o q => (sb.2 _ (Ne.symm D.a9)).trans q
    · have hlt : c < s.heap.objs.size := by
        have e' : c = z ∨ c = TI ∨ c = TO ∨ c = i1 ∨ c = i2 ∨ c = i3 := by simpa using hcm
        rcases e' with q | q | q | q | q | q
        · rw [q]; exact hzl
        · rw [q]; exact Heap.lt_size hTI
        · rw [q]; exact Heap.lt_size hTO
        · rw [q]; obtain ⟨_, e1, _⟩ := srcIt_obj h1; exact Heap.lt_size e1
        · rw [q]; obtain ⟨_, e2, _⟩ := srcIt_obj h2; exact Heap.lt_size e2
        · rw [q]; obtain ⟨_, e3, _⟩ := srcIt_obj h3; exact Heap.lt_size e3
      rw [upd_ne (Nat.ne_of_lt hlt)]
      exact (hf c hcm).1
  done := by
    intro X hP hw hK hc i pins s σ H E I hf st hg
    subst hP hw hK
    obtain ⟨hz, hTI, ⟨x0, y0, v0, hTO⟩, h1, h2, h3⟩ := st
    obtain ⟨xs, ys, ws, hqx, hqy, hqw, le1, le2, le3, hend⟩ := hg
    obtain ⟨its, rv, p⟩ := src_at I hqx
    obtain ⟨its2, rv2, p2⟩ := src_at I hqy
    obtain ⟨its3, rv3, p3⟩ := src_at I hqw
    have na : ∀ d, d ∈ [z, TI, TO, i1, i2, i3] → a ≠ d := fun d hcm q => src_some hqx (by rw [q]; exact (hf d hcm).1)
    have nb : ∀ d, d ∈ [z, TI, TO, i1, i2, i3] → b ≠ d := fun d hcm q => src_some hqy (by rw [q]; exact (hf d hcm).1)
    have nc : ∀ d, d ∈ [z, TI, TO, i1, i2, i3] → c ≠ d := fun d hcm q => src_some hqw (by rw [q]; exact (hf d hcm).1)
    have S := D.sep na nb nc
    have l1 := rv.length
    have l2 := rv2.length
    have l3 := rv3.length
    exact wpAny_pyNext_zipD3_end S (src_draws (k := k1) (A := X.A.in1) (I.ok.hd hc) i1 (na i1 (by simp)) its.toArray) (src_draws (k := k2) (A := X.A.in1) (I.ok.hd hc) i2 (nb i2 (by simp)) its2.toArray) (src_draws (k := k3) (A := X.A.in1) (I.ok.hd hc) i3 (nc i3 (by simp)) its3.toArray) hz hTI hTO ⟨h1, p⟩ ⟨h2, p2⟩ ⟨h3, p3⟩
      (by simp; omega) (by simp; omega) (by simp; omega) (by
        rcases hend with q | q | q
        · exact .inl (by simp; omega)
        · exact .inr (.inl (by simp; omega))
        · exact .inr (.inr (by simp; omega))) fun h' tk hk => ⟨rfl, I.turnedL (t' := tk) (ch := [z, TI, TO, i1, i2, i3]) (fun c o hb q =>
      hk c o (fun q' => hb (by simp [q'])) (fun q' => hb (by simp [q'])) (fun q' => hb (by simp [q'])) (fun q' => hb (by simp [q'])) (fun q' => hb (by simp [q'])) q) hf⟩
  self := fun A i s Q E st h => wpAny_pyIter_zip st.1 h
def iZipK3 (ta : TA) : TI := fun σ H R => ta σ H fun vs H1 => ∃ k1 k2 k3 a b c xs ys ws, vs = [.ref a, .ref b, .ref c] ∧ Src k1 H1 a xs ∧ Src k2 H1 b ys ∧ Src k3 H1 c ws ∧ R (ItzK3 k1 k2 k3 a b c) H1
theorem pi_zipK3 {X : Cx} {e e2 e3 : Expr} {ta : TA} {p pos tpos : Pos} {elts : List Expr} {kk : Nat} (hg : Gl X "zip") (hm : X.mg "zip" = none) (ha : PA X [e, e2, e3] ta)
    (hs : starEach [e, e2, e3] X.env = (false, eval e X.env) :: starEach [e2, e3] X.env := by rfl) (hpl : (backTo pos (starEach [e2, e3] X.env)).any (·.1) = false := by rfl) :
    PI X (.Tuple elts kk tpos) (.Call (.Name "zip" p) [e, e2, e3] [] pos) (iZipK3 ta) := by
  refine ⟨fun pins s σ H R I h => ?_⟩
  refine Call_ (ld_blt I hg hm PyProof.Rows.boot_zip (PyProof.Rows.callWith_type1 (thn (ha.run pos pins s σ H _ I h) fun us s1 ⟨vs, H1, I1, r1, q1⟩ => ?_) hs hpl))
  obtain ⟨k1, k2, k3, a, b, c, xs, ys, ws, ex, hqx, hqy, hqw, q⟩ := q1
  subst ex
  cases r1 with
  | cons r rr =>
    cases rr with
    | cons r' rr =>
      cases rr with
      | cons r'' rr =>
        cases rr
        cases r
        cases r'
        cases r''
        obtain ⟨its, rv, p1⟩ := src_at I1 hqx
        obtain ⟨its2, rv2, p2⟩ := src_at I1 hqy
        obtain ⟨its3, rv3, p3⟩ := src_at I1 hqw
        refine zip_begins3 (src_begins (k := k1) its.toArray) (src_begins (k := k2) its2.toArray) (src_begins (k := k3) its3.toArray) p1 p2 p3 fun h' hz hTI hTO h1 h2 h3 hsz hk => wpAny_pyIter_zip hz ?_
        have I2 : Inv X pins σ H1 { s1 with heap := h' } := I1.kept (t' := s1.toks) hk
        refine ⟨s1.heap.objs.size + 5, [s1.heap.objs.size + 5, s1.heap.objs.size + 3, s1.heap.objs.size + 4, s1.heap.objs.size, s1.heap.objs.size + 1, s1.heap.objs.size + 2], _, _, H1, rfl, I2, turn_zipK3 k1 k2 k3 (a := a) (b := b) (c := c) ?_, ⟨hz, hTI, ⟨_, _, _, hTO⟩, srcIt_new h1, srcIt_new h2, srcIt_new h3⟩, fun c hcm => ?_, q⟩
        · generalize s1.heap.objs.size = N
          exact ⟨show (N + 3 : Nat) ≠ N + 5 by omega, show (N + 4 : Nat) ≠ N + 5 by omega, show (N + 3 : Nat) ≠ N + 4 by omega, show (N + 3 : Nat) ≠ N by omega, show (N + 3 : Nat) ≠ N + 1 by omega, show (N + 3 : Nat) ≠ N + 2 by omega, show (N + 5 : Nat) ≠ N by omega, show (N + 5 : Nat) ≠ N + 1 by omega, show (N + 5 : Nat) ≠ N + 2 by omega, show (N + 4 : Nat) ≠ N by omega, show (N + 4 : Nat) ≠ N + 1 by omega, show (N + 4 : Nat) ≠ N + 2 by omega, show (N : Nat) ≠ N + 1 by omega, show (N : Nat) ≠ N + 2 by omega, show (N + 1 : Nat) ≠ N + 2 by omega⟩
        · have hle : s1.heap.objs.size ≤ c := by
            have e' : c = s1.heap.objs.size + 5 ∨ c = s1.heap.objs.size + 3 ∨ c = s1.heap.objs.size + 4 ∨ c = s1.heap.objs.size ∨ c = s1.heap.objs.size + 1 ∨ c = s1.heap.objs.size + 2 := by simpa using hcm
            rcases e' with z | z | z | z | z | z
            · rw [z]; exact Nat.le_add_right _ _
            · rw [z]; exact Nat.le_add_right _ _
            · rw [z]; exact Nat.le_add_right _ _
            · rw [z]; exact Nat.le_refl _
            · rw [z]; exact Nat.le_add_right _ _
            · rw [z]; exact Nat.le_add_right _ _
          exact I1.fpOk hle (I1.hok.fresh hle)
/-! ### against data -/
def YTri (f g h : Nat → Option V) : Nat → Hp → V → Hp → Prop := fun i H v H' => ∃ T x y w, v = .ref T ∧ H T = none ∧ H' = upd H T (.tup [x, y, w]) ∧ f i = some x ∧ g i = some y ∧ h i = some w
theorem zipL3_len : ∀ l m n : List PyData, (zipL3 l m n).length = min l.length (min m.length n.length)
  | [], _, _ => by simp [zipL3]
  | _ :: _, [], _ => by simp [zipL3]
  | _ :: _, _ :: _, [] => by simp [zipL3]
  | a :: as, b :: bs, c :: cs => by
    simp only [zipL3, List.length_cons, zipL3_len as bs cs]
    omega
theorem zipL3_at : ∀ {l m n : List PyData} {i : Nat} {a b c : PyData}, l[i]? = some a → m[i]? = some b → n[i]? = some c → (zipL3 l m n)[i]? = some (.tuple [a, b, c])
  | [], _, _, _, _, _, _, h, _, _ => by simp at h
  | _ :: _, [], _, _, _, _, _, _, h, _ => by simp at h
  | _ :: _, _ :: _, [], _, _, _, _, _, _, h => by simp at h
  | x :: l, y :: m, z :: n, 0, a, b, c, h1, h2, h3 => by simp at h1 h2 h3; subst h1 h2 h3; simp [zipL3]
  | x :: l, y :: m, z :: n, i + 1, a, b, c, h1, h2, h3 => by
    simp only [zipL3, List.getElem?_cons_succ]
    exact zipL3_at (by simpa using h1) (by simpa using h2) (by simpa using h3)
section
variable {K : FR} {c : Ctx K}
theorem wk_zip3 {F : Hp} {k1 k2 k3 : Bool} {p q o : Addr} {xs ys ws : List V} {l m n : List PyData} (h : Src k1 F p xs) (hd : DpAll K F xs l) (h2 : Src k2 F q ys) (hd2 : DpAll K F ys m) (h3 : Src k3 F o ws) (hd3 : DpAll K F ws n) : Wk K (ItzK3 k1 k2 k3 p q o) (zipL3 l m n) F := by
  have l1 := dps_len hd
  have l2 := dps_len hd2
  have l3 := dps_len hd3
  refine ⟨fun H => Src k1 H p xs ∧ Src k2 H q ys ∧ Src k3 H o ws, YTri (fun i => xs[i]?) (fun i => ys[i]?) (fun i => ws[i]?), ⟨fun i H hi z => ?_, fun H z => ⟨xs, ys, ws, z.1, z.2.1, z.2.2, ?_⟩, fun i H x H' hi z y => ?_⟩, fun F2 H2 e1 e2 => ⟨src_mono e2 (src_mono e1 h), src_mono e2 (src_mono e1 h2), src_mono e2 (src_mono e1 h3)⟩, fun i F2 H2 x H3 e1 e2 y hi => ?_⟩
  · rw [zipL3_len] at hi
    have i1 : i < xs.length := by omega
    have i2 : i < ys.length := by omega
    have i3 : i < ws.length := by omega
    exact ⟨xs, ys, ws, xs[i], ys[i], ws[i], z.1, z.2.1, z.2.2, List.getElem?_eq_getElem i1, List.getElem?_eq_getElem i2, List.getElem?_eq_getElem i3⟩
  · rw [zipL3_len]
    omega
  · obtain ⟨T, u, v, w, h1, h2, h3, h4, h5, h6⟩ := y
    exact ⟨T, u, v, w, h1, h2, h3, h4 xs z.1, h5 ys z.2.1, h6 ws z.2.2⟩
  · obtain ⟨T, u, v, w, rfl, hT, rfl, hu, hv, hw⟩ := y
    rw [zipL3_len] at hi
    have i1 : i < l.length := by omega
    have i2 : i < m.length := by omega
    have i3 : i < n.length := by omega
    obtain ⟨w1, w2, w3⟩ := dps_at (d := l[i]) hd (List.getElem?_eq_getElem i1)
    obtain ⟨y1, y2, y3⟩ := dps_at (d := m[i]) hd2 (List.getElem?_eq_getElem i2)
    obtain ⟨z1, z2, z3⟩ := dps_at (d := n[i]) hd3 (List.getElem?_eq_getElem i3)
    have hu' : xs[i]? = some u := hu
    have hv' : ys[i]? = some v := hv
    have hw' : ws[i]? = some w := hw
    rw [hu'] at w2
    cases w2
    rw [hv'] at y2
    cases y2
    rw [hw'] at z2
    cases z2
    have e3 := PExt.new (o := .tup [u, v, w]) e2 hT
    exact ⟨_, _, e3, zipL3_at (List.getElem?_eq_getElem i1) (List.getElem?_eq_getElem i2) (List.getElem?_eq_getElem i3), .tup (Rd.of upd_same) (.cons (dp_mono e3.ff _ (dp_mono e1 _ w3)) (.cons (dp_mono e3.ff _ (dp_mono e1 _ y3)) (.cons (dp_mono e3.ff _ (dp_mono e1 _ z3)) .nil)))⟩
theorem dat_src {F : Hp} {x : V} {d : PyData} {l : List PyData} (h : datItems d = some l) (i : Dp K F x d) : ∃ k p xs, x = .ref p ∧ Src k F p xs ∧ DpAll K F xs l := by
  cases d with
  | list m => cases h; cases i with | lst h1 h2 => exact ⟨true, _, _, rfl, h1, h2⟩
  | tuple m => cases h; cases i with | tup h1 h2 => exact ⟨false, _, _, rfl, h1, h2⟩
  | _ => cases h
theorem si_zip3 {t t' t'' : TE} {m m' m'' : ME c.W.G} (h : SoundE c t m) (h' : SoundE c t' m') (h'' : SoundE c t'' m'') : SoundI c (iZipK3 (tCons t (tCons t' (tCons t'' tNil)))) (CW.iZip3 m m' m'') := by
  intro a0 F0 H0 a g F H s r Rk rp post
  refine h _ _ _ _ _ _ _ _ _ _ rp ?_
  unfold CW.iZip3 at post
  cases hm : m r g with
  | no => rw [hm] at post; exact post
  | er e g1 => rw [hm] at post; exact post
  | ok u g1 =>
    rw [hm] at post
    simp only [R.bind_ok] at post
    intro a1 F1 H1 x e1 t1 i1 n1
    refine h' _ _ _ _ _ _ _ _ _ _ (rp.step e1 t1) ?_
    cases hm2 : m' r g1 with
    | no => rw [hm2] at post; exact post
    | er e g2 =>
      rw [hm2] at post
      exact fun a' F' H' C d e' t i => post a' F' H' C d (e1.trans e') t i
    | ok v g2 =>
      rw [hm2] at post
      simp only [R.bind_ok] at post
      intro a2 F2 H2 y e2 t2 i2 n2
      refine h'' _ _ _ _ _ _ _ _ _ _ ((rp.step e1 t1).step e2 t2) ?_
      cases hm3 : m'' r g2 with
      | no => rw [hm3] at post; exact post
      | er e g3 =>
        rw [hm3] at post
        exact fun a' F' H' C d e' t i => post a' F' H' C d ((e1.trans e2).trans e') t i
      | ok w g3 =>
        rw [hm3] at post
        simp only [R.bind_ok] at post
        intro a3 F3 H3 z e3 t3 i3 n3
        cases u with
        | dat du =>
          cases v with
          | dat dv =>
            cases w with
            | dat dw =>
              simp only at post
              cases hu : datItems du with
              | none => rw [hu] at post; exact post.elim
              | some l =>
                cases hv : datItems dv with
                | none => rw [hu, hv] at post; exact post.elim
                | some l2 =>
                  cases hw : datItems dw with
                  | none => rw [hu, hv, hw] at post; exact post.elim
                  | some l3 =>
                    rw [hu, hv, hw] at post
                    obtain ⟨k1, p1, xs, rfl, s1, d1⟩ := dat_src hu (dp_mono (fun b o z => e3.ff b o (e2.ff b o z)) _ i1)
                    obtain ⟨k2, p2, ys, rfl, s2, d2⟩ := dat_src hv (dp_mono e3.ff _ i2)
                    obtain ⟨k3, p3, ws, rfl, s3, d3⟩ := dat_src hw i3
                    exact ⟨k1, k2, k3, p1, p2, p3, xs, ys, ws, rfl, src_mono e3.fh s1, src_mono e3.fh s2, src_mono e3.fh s3, post a3 F3 H3 _ ((e1.trans e2).trans e3) t3 (wk_zip3 s1 d1 s2 d2 s3 d3)⟩
            | _ => exact post.elim
          | _ => cases w <;> exact post.elim
        | _ => cases v <;> cases w <;> exact post.elim
end
end CW
/-! CwFor2: for x in [a, b], two things of the world. -/
namespace CW
open PySem PySem.Spec PyProof.Rows L2
section
variable {K : FR} {W : Wld K} {a0 a a2 : W.A} {g g2 : W.G} {F0 H0 F H F2 H2 : Hp} {s s2 : L2.St} {r r2 : Env}
/-- the heap without what the slots own -/
noncomputable def lessOwn (H : Hp) (s : L2.St) (r : Env) : Hp := by
  classical
  exact fun b => if ∃ (i : Nat) (l : List PyData), r[i]? = some (some (.own l)) ∧ s[i]? = some (some (.ref b)) then none else H b
theorem lessOwn_le {b : Addr} (h : lessOwn H s r b ≠ none) : lessOwn H s r b = H b := by
  classical
  unfold lessOwn at *
  by_cases q : ∃ (i : Nat) (l : List PyData), r[i]? = some (some (.own l)) ∧ s[i]? = some (some (.ref b))
  · exact absurd (if_pos q) h
  · exact if_neg q
theorem lessOwn_no {b : Addr} (h : ¬ ∃ (i : Nat) (l : List PyData), r[i]? = some (some (.own l)) ∧ s[i]? = some (some (.ref b))) : lessOwn H s r b = H b := by
  classical
  unfold lessOwn
  exact if_neg h
theorem lessOwn_own {i : Nat} {l : List PyData} {b : Addr} (h : r[i]? = some (some (.own l))) (h2 : s[i]? = some (some (.ref b))) : lessOwn H s r b = none := by
  classical
  unfold lessOwn
  exact if_pos ⟨i, l, h, h2⟩
theorem Rep.rebase (rp : Rep W a0 F0 H0 a g F H s r) : Rep W a F (lessOwn H s r) a g F H s r :=
  ⟨⟨fun _ _ z => z, rp.ext.fh, fun b z f n => ⟨f, (lessOwn_le z).symm, n⟩, fun _ _ f _ => f, fun b z => by rw [← lessOwn_le z]; exact z, fun _ _ z => z⟩, rp.at_, rp.len, rp.slot, rp.nol, fun i l p hi hs => ⟨lessOwn_own hi hs, (rp.own i l p hi hs).2⟩⟩
theorem Rep.unbase (rp : Rep W a0 F0 H0 a g F H s r) (rq : Rep W a F (lessOwn H s r) a2 g2 F2 H2 s2 r2) : Rep W a0 F0 H0 a2 g2 F2 H2 s2 r2 := by
  have old : ∀ b, H0 b ≠ none → lessOwn H s r b = H b ∧ H b ≠ none := fun b z => by
    refine ⟨lessOwn_no fun ⟨i, l, h1, h2⟩ => z (rp.own i l b h1 h2).1, rp.ext.al b z⟩
  refine ⟨⟨fun b o z => rq.ext.ff b o (rp.ext.ff b o z), rq.ext.fh, fun b z f n => ?_, fun b z f n => ?_, fun b z => ?_, fun i b z => rq.ext.tk i b (rp.ext.tk i b z)⟩, rq.at_, rq.len, rq.slot, rq.nol, fun i l p hi hs => ⟨?_, (rq.own i l p hi hs).2⟩⟩
  · obtain ⟨e1, e2⟩ := old b z
    obtain ⟨p1, p2, p3⟩ := rp.ext.st b z f n
    obtain ⟨q1, q2, q3⟩ := rq.ext.st b (by rw [e1]; exact e2) p1 p3
    exact ⟨q1, (q2.trans e1).trans p2, q3⟩
  · obtain ⟨e1, e2⟩ := old b z
    have p1 := rp.ext.rg b z f n
    by_cases q : W.reg a b
    · exact rq.ext.rg b (by rw [e1]; exact e2) p1 q
    · exact (rq.ext.st b (by rw [e1]; exact e2) p1 q).1
  · obtain ⟨e1, e2⟩ := old b z
    exact rq.ext.al b (by rw [e1]; exact e2)
  · refine Classical.byContradiction fun z => ?_
    obtain ⟨e1, e2⟩ := old p z
    have := (rq.own i l p hi hs).1
    rw [e1] at this
    exact e2 this
end
section
variable {K : FR} {c : Ctx K}
theorem ss_for2 {i j k : Nat} {tb : TS} {mb : MS c.W.G} (hb : SoundS c tb mb) : SoundS c (tFor (iAny K (tLst (tCons (tVar i) (tCons (tVar j) tNil)))) (gName k) tb) (sFor2 i j k mb) := by
  intro a0 F0 H0 a g F H s r D rp post
  unfold sFor2 at post
  split at post
  · rename_i m n hi hj
    obtain ⟨x1, hs1, p1, ht1, rfl⟩ := rp.slot i _ hi
    obtain ⟨x2, hs2, p2, ht2, rfl⟩ := rp.slot j _ hj
    split at post
    · rename_i r1 g1 hb1
      split at post
      · rename_i r2 g2 hb2
        refine ⟨.ref p1, hs1, .ref p2, hs2, (by decide : (2 : Nat) ≤ sizeLine), fun q hq => .inl ⟨q, rfl, ⟨_, SqL.of upd_same⟩, ?_⟩⟩
        have pe := PExt.new (o := .lst [.ref p1, .ref p2]) rp.sub hq
        have rp1 := rp.step (Ext.of rp.sub pe) (at_of rp.at_ pe)
        have hF : upd F q (.lst [.ref p1, .ref p2]) q = some (.lst [.ref p1, .ref p2]) := upd_same
        generalize upd F q (.lst [.ref p1, .ref p2]) = F1 at rp1 hF pe
        generalize upd H q (.lst [.ref p1, .ref p2]) = H1 at rp1 pe ⊢
        refine for_it (walk_list (K := K) (a := q) (xs := [.ref p1, .ref p2])) (fun t s2 H2 => match t with
          | 0 => s2 = s ∧ H2 = H1
          | 1 => ∃ (a2 : c.W.A) (F2 : Hp), Rep c.W a0 F0 H0 a2 g1 F2 H2 s2 r1 ∧ (∀ b o, F1 b = some o → F2 b = some o) ∧ c.W.tok a2 n = some p2
          | _ => ∃ (a2 : c.W.A) (F2 : Hp), Rep c.W a0 F0 H0 a2 g2 F2 H2 s2 r2 ∧ (∀ b o, F1 b = some o → F2 b = some o)) ⟨rfl, rfl⟩ ?_ ?_ ?_
        · intro t s2 H2 ht hp
          match t, ht, hp with
          | 0, _, ⟨_, e⟩ => subst e; exact SqL.of (rp1.sub q _ hF)
          | 1, _, ⟨a2, F2, rp2, f2, _⟩ => exact SqL.of (rp2.sub q _ (f2 q _ hF))
          | 2, _, ⟨a2, F2, rp2, f2⟩ => exact SqL.of (rp2.sub q _ (f2 q _ hF))
          | t + 3, ht, _ => exact absurd ht (by simp)
        · intro t x s2 H2 H3 ht hp y
          obtain ⟨rfl, hx⟩ := y
          match t, ht, hp, hx with
          | 0, _, ⟨e1, e2⟩, hx =>
            subst e1 e2
            simp only [List.getElem?_cons_zero, Option.some.injEq] at hx
            subst hx
            have rs := rp1.set (i := k) (x := .ref p1) (v := .tok m) ⟨p1, ht1, rfl⟩ True.intro fun l z => by cases z
            refine hb _ _ _ _ _ _ _ _ _ _ rs.rebase ?_
            rw [hb1]
            intro a' F' H' s3 rq kk
            exact ⟨a', F', rs.unbase rq, kk, rq.ext.tk n p2 ht2⟩
          | 1, _, ⟨a2, F2, rp2, f2, tk2⟩, hx =>
            simp only [List.getElem?_cons_succ, List.getElem?_cons_zero, Option.some.injEq] at hx
            subst hx
            have rs := rp2.set (i := k) (x := .ref p2) (v := .tok n) ⟨p2, tk2, rfl⟩ True.intro fun l z => by cases z
            refine hb _ _ _ _ _ _ _ _ _ _ rs.rebase ?_
            rw [hb2]
            intro a' F' H' s3 rq kk
            exact ⟨a', F', rs.unbase rq, fun b o z => kk b o (f2 b o z)⟩
          | t + 2, ht, _, _ => exact absurd ht (by simp)
        · rintro s2 H2 ⟨a2, F2, rp2, f2⟩
          exact post a2 F2 H2 s2 rp2 fun b o z => f2 b o (pe.ff b o z)
      · exact post.elim
    · exact post.elim
  · exact post.elim
end
end CW
/-! CwLam: a lambda without parameters, or with one of a written number, that is made and called within a def. -/
namespace CW
open PySem PySem.Spec PyProof.Rows L2 LamX
abbrev lamO (q : Str) (ar : Arguments) (e : Expr) (sc : Scope) (cl : List (Str × Addr)) (dV doc pm : Value) (c' : Addr) (ct : Value) : Obj := PySem.W.kdv_obj "<lambda>" q ar (.expr e) sc cl dV doc pm c' ct
abbrev lamFd (q : Str) (ar : Arguments) (e : Expr) (sc : Scope) (cl : List (Str × Addr)) (dV doc pm cv ct : Value) : FuncData := PySem.W.kdv_fn "<lambda>" q ar (.expr e) sc cl dV doc pm cv ct
/-- the table has one more code object, or is as it was -/
def Lamd (P : Addr) (q : Str) (H H1 : Hp) : Prop := H1 = H ∨ ∃ (ps more : Array Value) (c : Addr), H P = some (.tbl ps) ∧ H c = none ∧ H1 = upd (upd H P (.tbl (ps ++ more))) c (CodeO c q) ∧
  TriplesOk (ps ++ more).toList ∧ ∀ (p : Pos) (cv : Value), codeAmong p (ps ++ more).toList = some cv → codeAmong p ps.toList = some cv ∨ cv = .ref c
theorem Lamd.tab {P : Addr} {q : Str} {H H1 : Hp} (l : Lamd P q H H1) (t : TabS H P q) : TabS H1 P q := by
  rcases l with rfl | ⟨ps, more, c, hP, hc, rfl, ht, ha⟩
  · exact t
  · obtain ⟨ps', e1, e2, e3⟩ := t
    rw [hP] at e1
    cases e1
    have n : P ≠ c := fun z => by rw [z, hc] at hP; cases hP
    refine ⟨_, by rw [upd_ne n, upd_same], ht, fun p cv h => ?_⟩
    rcases ha p cv h with z | z
    · obtain ⟨c2, q1, q2⟩ := e3 p cv z
      have n2 : c2 ≠ c := fun z => by rw [z, hc] at q2; cases q2
      have n3 : c2 ≠ P := fun z => by
        rw [z, hP] at q2
        exact codeO_ne ps (Option.some.inj q2).symm
      exact ⟨c2, q1, by rw [upd_ne n2, upd_ne n3]; exact q2⟩
    · exact ⟨c, z, upd_same⟩
theorem Lamd.keep {P : Addr} {q : Str} {H H1 : Hp} (l : Lamd P q H H1) {b : Addr} {o : HO} (n : b ≠ P) (h : H b = some o) : H1 b = some o := by
  rcases l with rfl | ⟨ps, more, c, hP, hc, rfl, _⟩
  · exact h
  · rw [upd_ne (ne_of_none h hc), upd_ne n]; exact h
/-- what is kept of the default's value -/
def Dv (ar : Arguments) (h : Heap) (ok : Addr → Prop) (dV : Value) : Prop := (ar.defaults = [] ∧ dV = .none) ∨ ∃ (T : Addr) (t : Tok), ar.defaults ≠ [] ∧ dV = .ref T ∧ h.get? T = some (PySem.W.kdv_tup [.int 0 t]) ∧ ok T
section
variable {X : Cx} {pins : List (Addr × Obj)} {σ : L2.St} {H : Hp} {s : Shared}
theorem nofr_new (I : Inv X pins σ H s) {f : Addr} (hf : s.heap.objs.size ≤ f) : f ∉ frs X.stack := fun z => by
  rcases List.mem_cons.mp (I.stkSub _ z) with e | e
  · have z2 := I.lt
    rw [← e] at z2
    exact absurd z2 (Nat.not_lt.mpr hf)
  · exact I.nofs hf e
theorem lam_tail {c P : Addr} {ar : Arguments} {e : Expr} {sc : Scope} {p : Pos} {dV : Value} {E Q : Value → Shared → Prop} (I : Inv X pins σ H s) (B : TabB X.base X.mg c P) (hc : X.env.code = .ref c) (t : TabS H P (X.env.qual ++ "<lambda>"))
    (hf : ∀ y ∈ sc.names, y.2 = .free → ∃ c, X.env.cells.lookup y.1 = some c)
    (go : ∀ (f c' : Addr) (doc pm ct : Value) (H1 : Hp) (s' : Shared), Inv X pins σ H1 s' → Lamd P (X.env.qual ++ "<lambda>") H H1 → (∀ b o, b ≠ P → s.heap.get? b = some o → s'.heap.get? b = some o) → (∀ b, s.heap.get? b ≠ none → H b = none → H1 b = none) →
      s'.heap.get? f = some (lamO (X.env.qual ++ "<lambda>") ar e sc (cloFrom X.env.cells sc.names []) dV doc pm c' ct) → H1 f = none → f ∉ frs X.stack → H1 c' = some (CodeO c' (X.env.qual ++ "<lambda>")) → Q (.ref f) s') :
    wpAny (model X.prog X.w) X.A (makeTail "<lambda>" (X.env.qual ++ "<lambda>") ar (.expr e) sc X.env dV .none none p p.line) Q E s := by
  obtain ⟨ps, hP, ht, ha⟩ := t
  have bP : s.heap.BuiltinsAt X.mg P := B.bm.keeps I.bk
  have aP := I.hok P _ hP
  cases hc2 : codeAmong p ps.toList with
  | some cv =>
    obtain ⟨c', rfl, hco⟩ := ha p cv hc2
    refine PySem.W.kdv_makeTailHit (c := c) (P := P) (ps := ps) (mg := X.mg) (closure_ok hf) I.ok.glob (I.mod.glob.keeps I.bk) hc (B.code.keeps I.bk) aP ht hc2 bP (fun ct doc h' tk kp hz => ?_)
    have J := I.kept (h' := h'.push (lamO (X.env.qual ++ "<lambda>") ar e sc (cloFrom X.env.cells sc.names []) dV doc ((X.mg "__name__").getD .none) c' ct)) (t' := tk) fun b o z => Heap.get?_push_of_some _ (kp b o z)
    exact go _ c' doc _ ct H _ J (.inl rfl) (fun b o _ z => Heap.get?_push_of_some _ (kp b o z)) (fun _ _ z => z) (Heap.get?_push_size _ rfl) (I.hok.fresh hz) (nofr_new I hz) hco
  | none =>
    refine PySem.W.kdv_makeTail (c := c) (P := P) (ps := ps) (mg := X.mg) (closure_ok hf) I.ok.glob (I.mod.glob.keeps I.bk) hc (B.code.keeps I.bk) aP ht hc2 B.gP bP (fun c' ct doc h' tk kp hz hl rec tb => ?_)
    obtain ⟨c2, oc, vs, tq, z, hoc, hd, hv⟩ := rec
    cases z
    have lt : s.heap.objs.size ≤ h'.objs.size := Nat.le_of_lt (Nat.lt_of_le_of_lt hz hl)
    have nc := I.hok.fresh hz
    have nf := I.hok.fresh lt
    have J := inv_table (q := X.env.qual ++ "<lambda>") (t' := tk) (more := #[rawInt p.line, rawInt p.col, .ref c']) (h' := h'.push (lamO (X.env.qual ++ "<lambda>") ar e sc (cloFrom X.env.cells sc.names []) dV doc ((X.mg "__name__").getD .none) c' ct)) I hP
      (fun b o nb z => Heap.get?_push_of_some _ (kp b o nb z)) (Heap.get?_push_of_some _ tb) hz ⟨oc, vs, tq, Heap.get?_push_of_some _ hoc, hd, hv⟩
    have el : (ps ++ #[rawInt p.line, rawInt p.col, .ref c']).toList = ps.toList ++ [rawInt p.line, rawInt p.col, .ref c'] := by simp
    refine go h'.objs.size c' doc _ ct _ _ J (.inr ⟨ps, _, c', hP, nc, rfl, by rw [el]; exact PySem.TriplesOk_snoc _ _ _ _ ht, fun p2 cv z => ?_⟩) (fun b o nb z => Heap.get?_push_of_some _ (kp b o nb z)) (fun b hb z => ?_) (Heap.get?_push_size _ rfl) ?_ (nofr_new I lt) upd_same
    · rw [el] at z
      exact among_app _ ht z
    · have n1 : b ≠ c' := fun y => by
        rw [y] at hb
        exact hb (Heap.get?_none_of_le hz)
      have n2 : b ≠ P := fun y => by rw [y, hP] at z; cases z
      rw [upd_ne n1, upd_ne n2]; exact z
    · have n1 : h'.objs.size ≠ c' := Nat.ne_of_gt hl
      have n2 : h'.objs.size ≠ P := fun y => by rw [y, hP] at nf; cases nf
      rw [upd_ne n1, upd_ne n2]; exact nf
theorem lam_mk {c P : Addr} {ar : Arguments} {e : Expr} {sc : Scope} {p : Pos} {E Q : Value → Shared → Prop} (I : Inv X pins σ H s) (B : TabB X.base X.mg c P) (hc : X.env.code = .ref c) (t : TabS H P (X.env.qual ++ "<lambda>"))
    (hf : ∀ y ∈ sc.names, y.2 = .free → ∃ c, X.env.cells.lookup y.1 = some c) (hk : ar.kw_defaults = []) (hd : ar.defaults = [] ∨ ∃ j p2, ar.defaults = [.Constant (.int 0) j p2])
    (go : ∀ (f c' : Addr) (dV doc pm ct : Value) (H1 : Hp) (s' : Shared), Inv X pins σ H1 s' → Lamd P (X.env.qual ++ "<lambda>") H H1 →
      s'.heap.get? f = some (lamO (X.env.qual ++ "<lambda>") ar e sc (cloFrom X.env.cells sc.names []) dV doc pm c' ct) → H1 f = none → f ∉ frs X.stack → Dv ar s'.heap (fun T => H1 T = none ∧ T ∉ frs X.stack) dV → H1 c' = some (CodeO c' (X.env.qual ++ "<lambda>")) → Q (.ref f) s') :
    wpAny (model X.prog X.w) X.A (eval (.Lambda ar e sc p) X.env) Q E s := by
  rcases hd with hd | ⟨j, p2, hd⟩
  · refine PySem.W.kla_eval (by rw [defaultsOf_eq, hd, hk]; rfl) ?_
    rw [makeFunction_eq]
    simp only [List.zip_nil_right, List.filterMap_nil, List.isEmpty_nil, if_true, pure_bind]
    exact lam_tail I B hc t hf fun f c' doc pm ct H1 s' J l _ _ h1 h2 h3 h4 => go f c' .none doc pm ct H1 s' J l h1 h2 h3 (.inl ⟨hd, rfl⟩) h4
  · refine PySem.W.kdv_lam (by rw [hd]; rfl) hk ?_
    rw [hd]
    refine PySem.W.kdv_all1 (thn ((pe_int (i := 0) (j := j) (pos := p2)).run pins s σ H (fun v H1 => v = .int 0 ∧ H1 = H) I ⟨rfl, rfl⟩) fun u s1 hh => PySem.W.kdv_all0 ?_)
    obtain ⟨v, H1, I1, r1, rfl, rfl⟩ := hh
    obtain ⟨tk, rfl⟩ : ∃ t, u = Value.int 0 t := r1
    rw [makeFunction_eq]
    simp only [List.zip_nil_right, List.filterMap_nil, List.isEmpty_nil, List.isEmpty_cons, if_true, pure_bind, Bool.false_eq_true, if_false]
    refine wpAny_bind (wpAny_newTextTuple ?_)
    have I2 : Inv X pins σ H1 { s1 with heap := s1.heap.push (PySem.W.kdv_tup [.int 0 tk]) } := I1.kept (t' := s1.toks) fun b o z => Heap.get?_push_of_some _ z
    have nT : H1 s1.heap.objs.size = none := I1.hok.fresh (Nat.le_refl _)
    have gT : (s1.heap.push (PySem.W.kdv_tup [.int 0 tk])).get? s1.heap.objs.size = some (PySem.W.kdv_tup [.int 0 tk]) := Heap.get?_push_size _ rfl
    refine lam_tail I2 B hc t hf fun f c' doc pm ct H2 s' J l kp kn h1 h2 h3 h4 => go f c' _ doc pm ct H2 s' J l h1 h2 h3 (.inr ⟨s1.heap.objs.size, tk, by rw [hd]; simp, rfl, kp _ _ (fun z => ?_) gT, kn _ (by rw [gT]; simp) nT, nofr_new I1 (Nat.le_refl _)⟩) h4
    obtain ⟨ps, hP, _⟩ := t
    rw [← z, nT] at hP
    cases hP
end
/-! ### the lambda's run -/
/-- its own names are none of N -/
structure LamS1 (N : List Str) (up sc : Scope) : Prop where
  kind : sc.kind = .function
  co : sc.isCoroutine = false
  gen : sc.isGenerator = false
  own : ∀ y ∈ sc.names, y.2 ≠ .cell ∧ (y.2 = .local → y.1 ∉ N)
  free : ∀ y ∈ sc.names, y.2 = .free → up.names.lookup y.1 = some .cell ∨ up.names.lookup y.1 = some .free
def lamS1B (N : List Str) (up sc : Scope) : Bool := decide (sc.kind = .function) && !sc.isCoroutine && !sc.isGenerator && sc.names.all fun y =>
  !decide (y.2 = .cell) && (!decide (y.2 = .local) || !N.contains y.1) && (!decide (y.2 = .free) || decide (up.names.lookup y.1 = some .cell) || decide (up.names.lookup y.1 = some .free))
theorem lamS1_by {N : List Str} {up sc : Scope} (h : lamS1B N up sc = true) : LamS1 N up sc := by
  unfold lamS1B at h
  simp only [Bool.and_eq_true, Bool.or_eq_true, Bool.not_eq_true', decide_eq_true_eq, decide_eq_false_iff_not, List.all_eq_true] at h
  obtain ⟨⟨⟨h1, h2⟩, h3⟩, h4⟩ := h
  refine ⟨h1, h2, h3, fun y hy => ⟨(h4 y hy).1.1, fun e z => ?_⟩, fun y hy e => ?_⟩
  · rcases (h4 y hy).1.2 with q | q
    · exact q e
    · rw [List.contains_iff_mem.mpr z] at q
      cases q
  · rcases (h4 y hy).2 with (q | q) | q
    · exact absurd e q
    · exact .inl q
    · exact .inr q
section
variable {X : Cx} {pins : List (Addr × Obj)} {σ : L2.St} {H HZ : Hp} {s s1 : Shared}
theorem LamS1.has {N : List Str} {sc : Scope} (L : LamS1 N X.env.scope sc) (ok : X.Ok) : ∀ y ∈ sc.names, y.2 = .free → ∃ c, X.env.cells.lookup y.1 = some c := fun y hy e => ok.has _ (L.free y hy e)
/-- the lambda's context, begun -/
theorem lam_begin {A : Around} {out : List PySem.Env} {E : XK} {sc : Scope} {f c' : Addr} {h1 : Heap} {tk : Nat} {bs : List (Str × Value)} (I : Inv X pins σ H s) (L : LamS1 X.N X.env.scope sc) (e0 : Env0 X.prog X.w X.K X.mg X.base A out s1 HZ) (hd : A.handled = none)
    (un : Un (frs X.stack) [] H HZ s.heap s1.heap) (hns : h1.Ns s1.heap.objs.size fun y => bs.reverse.lookup y) (kp : ∀ b o, s1.heap.get? b = some o → h1.get? b = some o) :
    Inv (lamCx X A out s1 HZ E sc f c') [] σ HZ { s1 with heap := h1, toks := tk } := by
  have hf := L.has I.ok
  have up : ∀ {y c}, (cloFrom X.env.cells sc.names []).lookup y = some c → X.env.cells.lookup y = some c := by
    intro y c e
    rcases cloFrom_mem (PySem.mem_of_lookup e) with z | ⟨z1, z2⟩
    · cases z
    · obtain ⟨c2, q⟩ := hf _ z1 rfl
      have q' : X.env.cells.lookup y = some c2 := q
      have : c = c2 := by rw [z2, q'] <;> rfl
      rw [this]
      exact q'
  have lk : ∀ {y}, sc.names.lookup y = some .free → ∃ c, (cloFrom X.env.cells sc.names []).lookup y = some c := by
    intro y e
    have m : (y, NameKind.free) ∈ sc.names := PySem.mem_of_lookup e
    exact mem_lookup (cloFrom_has (cells := X.env.cells) (acc := []) m)
  have ck : ∀ {c : Addr} {v : Option Value}, H c = none → s.heap.IsCell c v → h1.IsCell c v := by
    intro c v n ⟨o, ho, hdv⟩
    obtain ⟨sl, w⟩ := un.any ho n (by simp)
    exact ⟨_, kp _ _ w, hdv⟩
  have no : ∀ b : Addr, b ∉ (lamCx X A out s1 HZ E sc f c').ex := fun b z => List.not_mem_nil (show b ∈ ([] : List Addr) from z)
  have locN : ∀ {y : Str} {i : Nat}, X.N[i]? = some y → sc.names.lookup y ≠ some .local := fun {y i} e z => (L.own _ (PySem.mem_of_lookup z)).2 rfl (List.mem_of_getElem? e)
  have noc : ∀ {y : Str}, sc.names.lookup y ≠ some .cell := fun {y} z => (L.own _ (PySem.mem_of_lookup z)).1 rfl
  have okL : (lamCx X A out s1 HZ E sc f c').Ok := by
    refine ⟨e0.mod, L.kind, rfl, rfl, Nat.le_refl _, fun y z c e1 e2 => I.ok.inj y z c (up e1) (up e2), fun y hy => ?_, fun y c z _ => ?_, fun _ => hd, Around.frames_deeper e0.frames, .inr ⟨rfl, rfl⟩, fun b z => absurd z (no b), e0.bs, e0.bsz, fun b _ _ => no b,
      fun b z => absurd z (no b), e0.funs, e0.frf⟩
    · have hy' : sc.names.lookup y = some .cell ∨ sc.names.lookup y = some .free := hy
      rcases hy' with z | z
      · exact absurd z noc
      · exact lk z
    · have z' : false = true := z
      cases z'
  refine ⟨okL, rfl, e0.bare, Un.kept kp, ⟨_, hns, fun i y v e1 e2 e3 => ?_⟩, fun y c e => ?_, e0.hok.fresh (Nat.le_refl _), fun y c e => ?_, fun q hq => absurd (show q ∈ ([] : List (Addr × Obj)) ++ [] from hq) (by simp), e0.hok.kept kp, I.len⟩
  · have e3' : Vis sc y := e3
    rcases e3' with z | z | z
    · exact absurd z (locN (i := i) e1)
    · exact absurd z noc
    · obtain ⟨m, hn, hl⟩ := I.loc
      have hv : Vis X.env.scope y := (L.free _ (PySem.mem_of_lookup z) rfl).elim (fun z => .inr (.inl z)) (fun z => .inr (.inr z))
      obtain ⟨u, r, q⟩ := hl i y v e1 e2 hv
      obtain ⟨c2, h2⟩ := lk z
      refine ⟨u, r, .inr ⟨.inr z, c2, h2, ?_⟩⟩
      have c1 := up h2
      rcases q with ⟨z2, _⟩ | ⟨_, c3, e', z3⟩
      · have z2' : X.env.scope.names.lookup y = some .local := z2
        rcases L.free _ (PySem.mem_of_lookup z) rfl with w | w <;> rw [show X.env.scope.names.lookup y = _ from w] at z2' <;> cases z2'
      · rw [c1] at e'
        cases e'
        exact ck (I.freeC y _ c1) z3
  · obtain ⟨u, z⟩ := I.cell y c (up e)
    exact ⟨u, ck (I.freeC y c (up e)) z⟩
  · obtain ⟨v, o, ho, _⟩ := I.cell y c (up e)
    exact un.free c o ho (I.freeC y c (up e)) (by simp)
end
/-- what a call without arguments binds -/
def LamB (ar : Arguments) (e : Expr) (sc : Scope) : Prop := ∀ (s : Shared) (q : Str) (cl : List (Str × Addr)) (doc pm cv ct dV : Value), Dv ar s.heap (fun _ => True) dV →
  ∃ bs, BindsTo s (lamFd q ar e sc cl dV doc pm cv ct) ⟨[], []⟩ bs ∧ ∀ y ∈ bs, sc.names.lookup y.1 = some .local
theorem lamB_0 {ar : Arguments} {e : Expr} {sc : Scope} (hd : ar.defaults = []) (h : ∀ (q : Str) (cl : List (Str × Addr)) (doc pm cv ct : Value), bindArgs (lamFd q ar e sc cl .none doc pm cv ct) ⟨[], []⟩ = pure []) : LamB ar e sc := fun s q cl doc pm cv ct dV d => by
  rcases d with ⟨_, rfl⟩ | ⟨T, t, n, _⟩
  · exact ⟨[], BindsTo.of_eq (h q cl doc pm cv ct), fun y hy => absurd hy (by simp)⟩
  · exact absurd hd n
theorem lamB_1 {ar : Arguments} {e : Expr} {sc : Scope} {a : Str} (hd : ar.defaults ≠ []) (hl : sc.names.lookup a = some .local)
    (h : ∀ (q : Str) (cl : List (Str × Addr)) (doc pm cv ct dV : Value) (t : Tok), ∃ k : Option (Array Value) → Sem (List (Str × Value)), bindArgs (lamFd q ar e sc cl dV doc pm cv ct) ⟨[], []⟩ = (seqItems? dV >>= k) ∧ k (some #[.int 0 t]) = pure [(a, .int 0 t)]) : LamB ar e sc := fun s q cl doc pm cv ct dV d => by
  rcases d with ⟨z, _⟩ | ⟨T, t, n, rfl, g, _⟩
  · exact absurd z hd
  · obtain ⟨k, h1, h2⟩ := h q cl doc pm cv ct (.ref T) t
    exact ⟨[(a, .int 0 t)], BindsTo.of_defaults (T := T) rfl g rfl h1 h2, fun y hy => by
      simp only [List.mem_cons, List.not_mem_nil, or_false] at hy
      subst hy
      exact hl⟩
section
variable {X : Cx} {pins : List (Addr × Obj)} {σ : L2.St} {H HZ : Hp} {s s1 : Shared}
/-- x(), in the def that was handed the lambda -/
theorem pe_lamRun {CXg : CXT} {Eg : XK} {Ng : List Str} {qg : Str} {sg : Scope} {g f c' : Addr} {cdg dV doc pm ct : Value} {ar : Arguments} {body : Expr} {sc : Scope} {k i : Nat} {a : Str} {pn : List (Addr × Obj)} {xe : Value → Shared → Prop} {W : WX} {E : XK} {tb : TE} {p1 p2 : Pos}
    (I : Inv X pins σ H s) (L : LamS1 X.N X.env.scope sc) (hB : LamB ar body sc) (hf : s.heap.get? f = some (lamO (X.env.qual ++ "<lambda>") ar body sc (cloFrom X.env.cells sc.names []) dV doc pm c' ct)) (hn : H f = none) (hs : f ∉ frs X.stack)
    (hv : Dv ar s.heap (fun T => H T = none ∧ T ∉ frs X.stack) dV)
    (tk : Takes ((cxOf CXg X.prog X.w X.K X.mg X.base Ng qg sg g cdg X.A X.stack s H Eg).tr pn xe) W) (hW : ∀ cls d σ' H', σ'.length = Ng.length → E cls d H' → W cls d σ' H') (hr : Room (k + 1) (X.A.deeper (envOfC qg sg s.heap.objs.size g cdg)))
    (run : ∀ (A : Around) (out : List PySem.Env) (s : Shared) (H : Hp), Room k (A.deeper (lamEnv X sc s.heap.objs.size f c')) → PE (lamCx X A out s H E sc f c') body tb)
    (hN : Ng[i]? = some a) (hV : Vis sg a) (hd : (a == ("__debug__" : Str)) = false := by decide) (hcd : (a == ("__classdict__" : Str)) = false := by decide) :
    PE ((cxOf CXg X.prog X.w X.K X.mg X.base Ng qg sg g cdg X.A X.stack s H Eg).tr pn xe) (.Call (.Name a p1) [] [] p2)
      (fun σZ HZ Q => σZ[i]? = some (some (.ref f)) ∧ HZ c' = some (CodeO c' (X.env.qual ++ "<lambda>")) ∧ tb σ HZ Q) := by
  constructor
  intro pz sZ σZ HZ Q IZ ⟨h1, h2, h3⟩
  refine wpAny_Call_Name_kw (thn ((pe_var (pos := p1) (i := i) hN hV hd hcd).run pz sZ σZ HZ (fun v H1 => v = .ref f ∧ H1 = HZ) IZ ⟨.ref f, h1, rfl, rfl⟩) fun u s1 hh => ?_)
  obtain ⟨v, H1, I1, r1, ev, eH⟩ := hh
  subst ev eH
  obtain rfl : u = Value.ref f := r1
  have nex : ∀ b : Addr, b ∉ (cxOf CXg X.prog X.w X.K X.mg X.base Ng qg sg g cdg X.A X.stack s H Eg).ex := fun b z => List.not_mem_nil (show b ∈ ([] : List Addr) from z)
  have of1 := I1.base.keep f _ hf hn hs (nex f)
  have dv1 : Dv ar s1.heap (fun _ => True) dV := by
    rcases hv with z | ⟨T, t, z1, z2, z3, z4, z5⟩
    · exact .inl z
    · exact .inr ⟨T, t, z1, z2, I1.base.keep T _ z3 z4 z5 (nex T), trivial⟩
  obtain ⟨bs, hb, hbl⟩ := hB s1 (X.env.qual ++ "<lambda>") (cloFrom X.env.cells sc.names []) doc pm (.ref c') ct dV dv1
  refine PySem.W.callWith_F0 ⟨_, _, _, _, of1⟩ ?_
  have un : Un (frs X.stack) [] H H1 s.heap s1.heap := I1.base
  obtain ⟨⟨oc, vs, t, hoc, hdc, hvc⟩, _, _⟩ := I1.hok c' _ h2
  have rc : codeAny (model X.prog X.w) (X.A.deeper (envOfC qg sg s.heap.objs.size g cdg)) (.call (.ref f) ⟨[], []⟩) (CR (L2.CX X.prog X.w) (envOfC qg sg s.heap.objs.size g cdg :: X.stack) X.prog X.w H1 s1 Q E) s1 := by
    refine PySem.W.kla_callFunE hr.depth of1 rfl L.co L.gen rfl ⟨c', oc, vs, t, rfl, hoc, hdc, hvc⟩ (hb _ _ _ _ ?_)
    refine wpAny_newFunctionEnv (fun y hy => (L.own y hy).1) hbl (fun h₁ hns hsb => ⟨I1.nolimit.fresh _ hsb, ?_⟩) L.kind
    show codeAny _ _ (.expr body (lamEnv X sc s1.heap.objs.size f c')) _ _
    have kp : ∀ b o, s1.heap.get? b = some o → h₁.get? b = some o := fun b o e => hsb.extBut b o (Nat.ne_of_lt (Heap.lt_size e)) (Heap.get?_push_of_some _ e)
    have J : Inv (lamCx X (X.A.deeper (envOfC qg sg s.heap.objs.size g cdg)) (envOfC qg sg s.heap.objs.size g cdg :: X.stack) s1 H1 E sc f c') [] σ H1 { s1 with heap := h₁, toks := s1.toks + bs.length } :=
      lam_begin I L I1.env0 hr.hd un hns kp
    refine PySem.W.kla_codeExpr (wpAny_mono ((run _ _ s1 H1 (hr.deeper _)).run [] _ _ H1 Q J h3) (fun v s' hq => ?_) fun e s' hq => hq)
    obtain ⟨w', H', J', rv, q⟩ := hq
    exact ⟨w', H', J'.os, J'.bare, J'.base, J'.hok, rv, q⟩
  have hx : Passes (L2.CX X.prog X.w) ((cxOf CXg X.prog X.w X.K X.mg X.base Ng qg sg g cdg X.A X.stack s H Eg).tr pn xe) E := fun pz σ H s e s' I c => tk e s' (XE.of_call I (fun cls d H' h => hW cls d σ H' I.len h) c)
  refine wpAny_call (codeAny_mono rc fun r s' hq => ?_)
  cases r with
  | error e => exact hx pz σZ H1 s1 e s' I1 hq
  | ok fl => cases fl with
    | ret u => exact I1.after hq
    | next => exact hq.elim
    | brk => exact hq.elim
    | cont => exact hq.elim
end
/-- the def that calls what it got, and lets nothing out; TT: what it makes of the lambda's reading -/
def Tells (X : Cx) (Ng : List Str) (x : Str) (sg : Scope) (g : Addr) (cdg : Value) (bg : List Stmt) (a q : Str) (TT : (XK → Hp → VK → Prop) → Hp → VK → Prop) : Prop :=
  ∀ (f c' : Addr) (s : Shared) (H : Hp) (Q : VK) (tl : XK → Hp → VK → Prop), Room 0 (X.A.deeper (envOfC x sg s.heap.objs.size g cdg)) →
    (∀ (W : WX) (pn : List (Addr × Obj)) (xe : Value → Shared → Prop) (E : XK) (p1 p2 : Pos), Takes ((cxOf CX0 X.prog X.w X.K X.mg X.base Ng x sg g cdg X.A X.stack s H C8.E0).nox.tr pn xe) W → (∀ cls d σ' H', σ'.length = Ng.length → E cls d H' → W cls d σ' H') →
      PE ((cxOf CX0 X.prog X.w X.K X.mg X.base Ng x sg g cdg X.A X.stack s H C8.E0).nox.tr pn xe) (.Call (.Name a p1) [] [] p2) (fun σZ HZ Q => σZ[0]? = some (some (.ref f)) ∧ HZ c' = some (CodeO c' q) ∧ tl E HZ Q)) →
    H c' = some (CodeO c' q) → TT tl H Q → ∃ t, PSs (cxOf CX0 X.prog X.w X.K X.mg X.base Ng x sg g cdg X.A X.stack s H C8.E0).nox bg t ∧ t { nx := fun _ H' => Q .non H', rt := Q } (L2.start Ng [.ref f]) H
/-- x(lambda: body) -/
def tLam1 (P : Addr) (q : Str) (TT : (XK → Hp → VK → Prop) → Hp → VK → Prop) (t : XK → TE) : TE := fun σ H Q => TabS H P q ∧ ∀ H1, Lamd P q H H1 → TT (fun E H' Q' => t E σ H' Q') H1 Q
theorem pe_told {X : Cx} {TT : (XK → Hp → VK → Prop) → Hp → VK → Prop} {x a : Str} {g c P : Addr} {k : Nat} {bg : List Stmt} {sg : Scope} {fd : FuncData} {Ng : List Str} {ar : Arguments} {ag : Arguments}
    {body : Expr} {sc : Scope} {t : XK → TE} {p lpos pos : Pos} (hg : Gl X x) (hm : X.mg x = some (.ref g)) (hk : PySem.W.keepIn X.K (.ref g) = true)
    (F : FunD X.K x x ag bg sg [] [] g fd) (hb : L2.Binds X.K fd [a] []) (S : FnScope Ng [a] sg) (hNg : Ng[0]? = some a) (hva : Vis sg a)
    (hG : ∀ cdg, Tells X Ng x sg g cdg bg a (X.env.qual ++ "<lambda>") TT) (B : TabB X.base X.mg c P) (hc : X.env.code = .ref c) (hr : Room (k + 2) X.A) (L : LamS1 X.N X.env.scope sc) (hB : LamB ar body sc)
    (hk0 : ar.kw_defaults = []) (hd0 : ar.defaults = [] ∨ ∃ j p2, ar.defaults = [.Constant (.int 0) j p2])
    (run : ∀ (A : Around) (out : List PySem.Env) (s : Shared) (H : Hp) (E : XK) (f c' : Addr), Room k (A.deeper (lamEnv X sc s.heap.objs.size f c')) → PE (lamCx X A out s H E sc f c') body (t E))
    (hdb : (x == ("__debug__" : Str)) = false := by decide) (hd : (a == ("__debug__" : Str)) = false := by decide) (hcd : (a == ("__classdict__" : Str)) = false := by decide) :
    PE X (.Call (.Name x p) [.Lambda ar body sc lpos] [] pos) (tLam1 P (X.env.qual ++ "<lambda>") TT t) := by
  constructor
  intro pins s σ H Q I ⟨hT, h⟩
  refine wpAny_Call_Name_kw (ld_glob I hg hm ?_ hdb)
  refine PySem.W.callWith_K (h₀ := X.base) I.ok.mod.kin hk ?_ (by rfl) (by rfl)
  show wpAny _ _ (spliced ((false, eval (.Lambda ar body sc lpos) X.env) :: backTo pos (starEach [] X.env))) _ _ s
  refine Calls.spliced_cons (lam_mk I B hc hT (L.has I.ok) hk0 hd0 fun f c' dV doc pm' ct H1 s' I1 l hf hfn hfr hv hco => ?_)
  refine Calls.spliced_nil ⟨I1.kIn, ?_⟩
  obtain ⟨⟨oc2, od2, dV2, kV2, doc2, pm2, an2, cd2, ct2, osl2, e2, lk2, hcg, _, _⟩, _⟩ := F
  subst e2
  have rc : codeAny (model X.prog X.w) X.A (.call (.ref g) ⟨[.ref f], []⟩) (CR CX0 X.stack X.prog X.w H1 s' Q C8.E0) s' := by
    refine run_ofS (N := Ng) (ps := [a]) (us := [.ref f]) (vs := [.ref f]) lk2 hcg S hr I1.env0 (hb s' [.ref f] I1.kIn rfl) (.cons rfl .nil) rfl fun hr' => ?_
    obtain ⟨t', ht', hq'⟩ := hG cd2 f c' s' H1 Q (fun E H' Q' => t E σ H' Q') (hr'.mono (Nat.zero_le _)) (fun W pn xe E p1 p2 tk hW => pe_lamRun (CXg := CX0) (Eg := C8.E0) (i := 0) I1 L hB hf hfn hfr hv tk hW hr' (fun A out s H hr2 => run A out s H E f c' hr2) hNg hva hd hcd) hco (h H1 l)
    exact ⟨t', ht'.nox, hq'⟩
  refine wpAny_call (codeAny_mono rc fun r s2 hq => ?_)
  cases r with
  | error e => exact (show False from hq).elim
  | ok fl => cases fl with
    | ret u => exact I1.after hq
    | next => exact hq.elim
    | brk => exact hq.elim
    | cont => exact hq.elim
end CW
/-! CwTold: raise; several named except clauses; what _law_told makes of a lambda's run. -/
namespace CW
open PySem PySem.Spec PyProof.Rows L2 LamX
/-! ### raise C("..") -/
section
variable {K : FR} {c : Ctx K}
@[reducible] def tRaise (C : Addr) (W : WX) : TS := fun _ σ H => W (.ref C) none σ H
theorem ss_raise {n : Str} {C : Addr} (h : c.mg n = some (.ref C)) : SoundS c (tRaise C c.Wx) (sRaise n) := fun a0 F0 H0 a g F H s r D rp post => post a F H s (.ref C) none rp ⟨⟨C, h, rfl⟩, rfl⟩
end
/-- what is asked of a class C of ValueError's kind without own beginnings -/
def plainB (K : FR) (C : Addr) : Bool := PySem.W.excIn K C [.type "ValueError", .type "Exception", .type "BaseException", .type "object"] "ValueError.__new__" && (PySem.W.keepIn K (.ref C) &&
  (decide (PySem.W.subIn K (.ref C) (.type "BaseException") = some true) && decide (PySem.W.typeIn K (.ref C) = some (.type "type"))))
theorem ps_raiseP {X : Cx} {W : WX} {x m : Str} {C : Addr} {j : Nat} {p p2 p3 pos : Pos} (hc : X.calm = true) (tk : Takes X W) (hm : X.mg x = some (.ref C)) (hp : plainB X.K C = true) (hg : Gl X x) (hdb : (x == ("__debug__" : Str)) = false := by decide) :
    PS X (.Raise (some (.Call (.Name x p) [.Constant (.str m) j p2] [] p3)) none pos) (tRaise C W) := by
  simp only [plainB, Bool.and_eq_true, decide_eq_true_eq] at hp
  obtain ⟨q1, q2, q3, q4⟩ := hp
  exact ps_raise hc tk (pmk_own PySem.F.excBase_ValueError q1 hm q2 (raises_own q3 q4) hg hdb)
/-! ### several named clauses -/
abbrev TsN := Addr → Value → Option Addr → TS
def endsN (i : Nat) (D : Ends) : Ends := { nx := fun σ H => D.nx (σ.set i none) H, rt := D.rt, bk := fun σ H => D.bk (σ.set i none) H, ct := fun σ H => D.ct (σ.set i none) H }
def wNs (K : FR) (Wo : WX) (D : Ends) : List (Value × Nat × TsN) → WX
  | [] => Wo
  | (c, i, ts) :: r => fun cls d σ H => ∃ b, PySem.W.exmOne K cls c = some b ∧ (b = true → ∀ a, H a = none → ts a cls d (endsN i D) (σ.set i (some (.ref a))) H) ∧ (b = false → wNs K Wo D r cls d σ H)
inductive HdN (X : Cx) : List ExceptHandler → List (Value × Nat × TsN) → Prop
  | nil : HdN X [] []
  | cons {x n : Str} {i : Nat} {c : Value} {ts : TsN} {b0 : Stmt} {su : List Stmt} {p1 p2 : Pos} {hs : List ExceptHandler} {l : List (Value × Nat × TsN)} (hi : X.N[i]? = some n) (hl : X.env.kindOf n = some .local) (hc : Names X x c)
      (hsu : ∀ (a : Addr) (oe : Obj) (cls : Value) (d : Option Addr) (pn : List (Addr × Obj)), Zc cls d oe → (∃ vs, oe.data = .fields vs) → PSs (X.suite a ((a, oe) :: pn)) (b0 :: su) (ts a cls d)) (r : HdN X hs l) :
      HdN X (.ExceptHandler (some (.Name x p1)) (some n) (b0 :: su) p2 :: hs) ((c, i, ts) :: l)
section
variable {X : Cx} {body : List Stmt} {h0 : ExceptHandler} {hds : List ExceptHandler} {l : List (Value × Nat × TsN)} {pos : Pos} {tb : WX → TS} {Wo : WX}
theorem ps_tryN (hs : X.stack = X.env :: X.outer) (hf : X.env.frame = some X.env.locals) (hN : X.N.Nodup) (tk : Takes X Wo)
    (hb : ∀ (W : WX) (pn : List (Addr × Obj)) (xe : Value → Shared → Prop), Takes (X.tr pn xe) W → PassesOwn (model X.prog X.w) X.A X.env xe → PSs (X.tr pn xe) body (tb W))
    (hh : HdN X (h0 :: hds) l) : PS X (.Try body (h0 :: hds) [] [] pos) (fun D σ H => tb (wNs X.K Wo D l) D σ H) := by
  constructor
  intro pins s σ H D I h
  have ok := I.ok
  have hfr : X.A.frames = some (X.env :: X.outer) := ok.frames.trans (by rw [hs])
  refine wpAny_Try_except ?_
  refine wpAny_mono ((hb (wNs X.K Wo D l) (X.pn ++ pins) (fun e s₁ => wpAny (model X.prog X.w) X.A (noteFrame e X.env) (fun _ s₂ => wpAny (model X.prog X.w) X.A (setFlight e none) (fun _ s₃ =>
    wpAny (model X.prog X.w) X.A (handleBy e X.env (h0 :: hds)) (SP X pins D) X.xe s₃) X.xe s₂) X.xe s₁) (fun u s' xx => ?_) PassesOwn.looking).run [] s σ H D (I.toTry _) h) (fun f s1 hsp => ?_) (fun e s1 he => he)
  · obtain ⟨a, B, sI, pins', σ', H', cls, d, rfl, J', nb, up, sky, na, os, ag, w⟩ := xx
    have J : Inv X pins σ' H' sI := J'.ofTry ok
    have sky' : Sky B (X.env :: X.outer) a (Zc cls d) X.env.locals s'.heap := by rw [← hs]; exact sky
    show wpAny (model X.prog X.w) X.A (noteFrame (.ref a) X.env) _ _ _
    refine Sky.land Zc.steady hfr hf sky' fun h3 fl3 up3 => ?_
    have J3 : Inv X pins σ' H' { s' with heap := h3 } := J.landed nb fl3.1 (up.trans up3) os ag
    obtain ⟨oe3, vs3, he3, hz3, hd3⟩ := fl3.there
    have nfr : a ∉ frs (X.env :: X.outer) := fun hm => by
      obtain ⟨_, o', e', hnf⟩ := fl3.2.2.1.mem hm
      rw [he3] at e'
      cases e'
      exact hnf _ hd3
    have nL : a ≠ X.env.locals := fun z => nfr (List.mem_filterMap.mpr ⟨X.env, List.mem_cons_self, by rw [hf, z]⟩)
    have nF : a ∉ X.fs := fun hm => by
      obtain ⟨e, he, q⟩ := List.mem_filterMap.mp hm
      exact nfr (List.mem_filterMap.mpr ⟨e, List.mem_cons_of_mem _ he, q⟩)
    have S3 := J3.suite he3 hd3 na nL nF
    have go : ∀ {hs' : List ExceptHandler} {l' : List (Value × Nat × TsN)}, HdN X hs' l' → wNs X.K Wo D l' cls d σ' H' → wpAny (model X.prog X.w) X.A (handleBy (.ref a) X.env hs') (SP X pins D) X.xe { s' with heap := h3 } := by
      intro hs' l' hk
      induction hk with
      | nil =>
        intro w
        refine wpAny_handleBy_nil ?_
        obtain ⟨k1, k2, k3, oe, vs, T, oT, ts', he, hz, hd, h1, hr⟩ := id fl3
        unfold PySem.passOn
        refine wpAny_bind (wpAny_field he hd h1 ?_)
        rw [if_neg (show ¬ ((Value.ref T == Value.none) = true) from by simp)]
        have fin : wpAny (model X.prog X.w) X.A (setFlight (.ref a) X.env.frame) (fun _ s4 => wpAny (model X.prog X.w) X.A (throw (.ref a) : Sem Flow) (SP X pins D) X.xe s4) X.xe { s' with heap := h3 } := by
          rw [hf]
          refine HandSPX.setFlight_upZ fl3 fun h4 hh4 up4 => wpAny_throw (tk _ _ ?_)
          exact ⟨a, B, sI, pins, σ', H', cls, d, rfl, J, nb, (up.trans up3).trans up4, .inr (.inr (by rw [hs]; exact hh4)), na, os, ag, w⟩
        first
          | exact wpAny_bind (wpAny_pure (wpAny_bind fin))
          | exact wpAny_bind fin
      | @cons x n i c ts b0 su p1 p2 hs2 l2 hi hl hc hsu r ih =>
        intro w
        obtain ⟨b, hb1, hyes, hno⟩ := w
        refine wpAny_handleBy_cons (codeAny_handlers_test ?_) (by intro q; cases q)
        have LT : PySem.W.Looks (model X.prog X.w) h3 (typeOf (.ref a)) cls := fun A Q E s k q => wpAny_typeOf_ref (k _ _ he3) (by rw [hz3.1]; exact q)
        have LM := PySem.W.exm_one (M := model X.prog X.w) (J3.kIn) LT hb1
        have test : ∀ {Q : Value → Shared → Prop} {E : Value → Shared → Prop}, Q c { s' with heap := h3 } → wpAny (model X.prog X.w) (X.A.mark (some (.ref a))) (eval (.Name x p1) X.env) Q E { s' with heap := h3 } := fun {Q E} q => by
          obtain ⟨hg, hdbg, hm | ⟨hm, hv, hnn⟩⟩ := hc
          · exact ld_glob (X := X.suite a ((a, oe3) :: (X.pn ++ pins))) S3 hg hm q hdbg
          · exact ld_blt (X := X.suite a ((a, oe3) :: (X.pn ++ pins))) S3 hg hm hv q hnn hdbg
        refine test (LM.here ?_)
        cases b with
        | false =>
          show wpAny _ X.A (handleBy (.ref a) X.env hs2) _ _ _
          exact ih (hno rfl)
        | true =>
          refine codeAny_handlers_suite_as ?_
          refine HandSPX.lands_againZ fl3 fun h4 fl4 up4 => ?_
          have J4 : Inv X pins σ' H' { s' with heap := h4 } := J.landed nb fl4.1 ((up.trans up3).trans up4) os ag
          obtain ⟨oe4, vs4, he4, hz4, hd4⟩ := fl4.there
          have S4 := J4.suite he4 hd4 na nL nF
          refine store_ok (X := X.suite a ((a, oe4) :: (X.pn ++ pins))) (v := .ref a) S4 hN hi (.inl hl) rfl (fun s5 S5 => ?_) (.inr hl)
          refine wpAny_mono ((hsu a oe4 cls d (X.pn ++ pins) hz4 ⟨_, hd4⟩).run [] s5 _ H' _ S5 (hyes rfl a na)) (fun f s6 hsp => ?_) (fun _ _ z => False.elim z)
          have fin : ∀ {σ6 : L2.St} {H6 : Hp} {Q : Shared → Prop}, Inv (X.suite a ((a, oe4) :: (X.pn ++ pins))) [] σ6 H6 s6 → (∀ s7, Inv X pins (σ6.set i none) H6 s7 → Q s7) →
              wpAny (model X.prog X.w) X.A (do bindName X.env n .none; unbindBehindTheSuite X.env n p2) (fun _ s7 => Q s7) X.xe s6 := fun {σ6 H6 Q} S6 hq => gone_ok (S6.unsuite ok) hN hi hl hq
          cases f with
          | next =>
            obtain ⟨σ6, H6, S6, q6⟩ := hsp
            exact fin S6 fun s7 J7 => ⟨_, _, J7, q6⟩
          | brk =>
            obtain ⟨σ6, H6, S6, q6⟩ := hsp
            exact fin S6 fun s7 J7 => ⟨_, _, J7, q6⟩
          | cont =>
            obtain ⟨σ6, H6, S6, q6⟩ := hsp
            exact fin S6 fun s7 J7 => ⟨_, _, J7, q6⟩
          | ret u =>
            obtain ⟨v6, σ6, H6, S6, r6, q6⟩ := hsp
            exact fin S6 fun s7 J7 => ⟨_, _, _, J7, r6, q6⟩
    exact go hh w
  · cases f with
    | next =>
      obtain ⟨σ', H', J', q⟩ := hsp
      exact wpAny_execs_nil ⟨σ', H', J'.ofTry ok, q⟩
    | brk =>
      obtain ⟨σ', H', J', q⟩ := hsp
      exact ⟨σ', H', J'.ofTry ok, q⟩
    | cont =>
      obtain ⟨σ', H', J', q⟩ := hsp
      exact ⟨σ', H', J'.ofTry ok, q⟩
    | ret u =>
      obtain ⟨v, σ', H', J', r, q⟩ := hsp
      exact ⟨v, σ', H', J'.ofTry ok, r, q⟩
end
end CW
/-! CwTold2: the except suite of _law_told; the world with a def's table of code objects. -/
namespace CW
open PySem PySem.Spec PyProof.Rows L2 LamX
/-! ### the suite -/
/-- a world of one refusal -/
@[reducible] def WEx (K : FR) (ea : Addr) : Wld K where
  G := Unit
  A := Unit
  tok := fun _ n => if n = 0 then some ea else none
  reg := fun _ _ => False
  at_ := fun _ _ _ _ => True
  keep := fun _ _ _ => trivial
  off := fun _ r => r.elim
section
variable {K : FR} {mg : Str → Option Value} {Wx : WX}
theorem so_isE {ea D C : Addr} {b : Bool} (i : Nat) (h : PySem.W.kitOne K (.ref D) (.ref C) = some b) : SoundE (⟨WEx K ea, mg, Wx⟩ : Ctx K) (tCB (rIsE K D ea) (tCons (tVar i) (tCons (tC (.ref C)) tNil))) (sIsE b i) := by
  intro a0 F0 H0 a g F H s r Q rp post
  unfold sIsE at post
  split at post
  · rename_i hi
    obtain ⟨x, h1, h2⟩ := rp.slot i _ hi
    obtain ⟨p, hp, rfl⟩ := h2
    have e : p = ea := by
      have hp' : (if (0 : Nat) = 0 then some ea else none) = some p := hp
      simpa using hp'.symm
    subst e
    refine ⟨_, h1, .ref C, .ref C, b, rfl, fun u ru => ru, h, ?_⟩
    exact post a F H (.bl b) (Ext.refl rp.sub) trivial (.bl b) trivial
  · exact post.elim
end
/-! ### count, index of a slot's list -/
def rCntD (K : FR) : V → List V → Hp → VK → Prop := fun x xs H Q => ∃ (p : Addr) (y : V) (d : PyData) (ds : List PyData), x = .ref p ∧ xs = [y] ∧ L2.Dp K H (.ref p) (.list ds) ∧ L2.Dp K H y d ∧ PyData.plainAll ds = true ∧ d.plain = true ∧ d.depth ≤ 12 ∧
  Q (.int ((ds.countP fun z => PyData.eqv z d : Nat) : Int)) H
theorem flat_plain : ∀ {l : List PyData}, l.all flat = true → PyData.plainAll l = true
  | [], _ => rfl
  | d :: l, h => by
    simp only [List.all_cons, Bool.and_eq_true] at h
    unfold PyData.plainAll
    rw [flat_plain h.2]
    cases d <;> first | rfl | simp [flat] at h
section
variable {X : Cx}
theorem mt_cntD (hu : X.A.units + 64 < cLine) : MtR X "list.count" (rCntD X.K) := by
  intro pins s σ H x vs v us Q I rx rv h
  obtain ⟨p, y, d, ds, rfl, rfl, hl, hy, hp1, hp2, hd, q⟩ := h
  cases rx
  obtain ⟨u, rfl, ru⟩ := rv.one
  cases hl with
  | lst hs hds =>
    obtain ⟨its, rr, il, _⟩ := I.list hs
    obtain ⟨as, ra⟩ := L2.Dp.readsAll I ds _ its hds rr
    obtain ⟨bs, rb⟩ := L2.Dp.reads I d y u hy ru
    refine PySem.SeqAt.count_list_data (vs := its.toArray) il.isList (by simpa using ra) rb hp1 hp2 (by omega) ?_
    exact ⟨.int _, H, I.tok _, ⟨_, rfl⟩, q⟩
end
section
variable {K : FR} {c : Ctx K}
theorem so_lm {r : V → List V → Hp → VK → Prop} {y : V} {f : Vl → Option Int} (i : Nat) (hr : ∀ (a : c.W.A) (F H : Hp) (x : V) (u : Vl) (k : Int) (Q : VK), (∀ b o, F b = some o → H b = some o) → IsV c.W a F H x u → f u = some k → Q (.int k) H → r x [y] H Q)
    (hl : ∀ u k, f u = some k → ∃ l, u.lst? = some l) : SoundE c (tBM K "list" r (tVar i) (tCons (tC y) tNil)) (sLm f i) := by
  intro a0 F0 H0 a g F H s r' Q rp post
  refine so_var i a0 F0 H0 a g F H s r' _ rp ?_
  unfold sLm at post
  cases h : (sV i : ME c.W.G) r' g with
  | no => rw [h] at post; exact post
  | er e g1 => rw [h] at post; exact post
  | ok u g1 =>
    rw [h] at post
    simp only [R.bind_ok] at post
    intro a1 F1 H1 x e1 t1 i1 n1
    cases hf : f u with
    | none => rw [hf] at post; exact post.elim
    | some k =>
      rw [hf] at post
      obtain ⟨l, hl'⟩ := hl u k hf
      obtain ⟨p, xs, rfl, hp, hx⟩ := i1.lst e1.fh hl'
      exact ⟨.inl ⟨rfl, xs, .inl hp⟩, hr a1 F1 H1 _ u k Q e1.fh i1 hf (post a1 F1 H1 (.int k) e1 t1 (.int k) trivial)⟩
theorem so_cnt {y : V} {d : PyData} (i : Nat) (hd : ∀ F : Hp, Dp K F y d) : SoundE c (tBM K "list" (rCntD K) (tVar i) (tCons (tC y) tNil)) (sLm (fCnt d) i) := so_lm i (fun a F H x u k Q sub iu h q => by
    unfold fCnt at h
    split at h
    · rename_i l hl
      split at h
      · rename_i hs
        rw [Bool.and_eq_true] at hs
        cases h
        obtain ⟨p, xs, rfl, r, hx⟩ := iu.lst sub hl
        refine ⟨p, y, d, l, rfl, rfl, .lst (.inl r) (dps_lib _ (dps_mono sub _ hx)), dp_lib _ (hd H), flat_plain hs.1, ?_, ?_, ?_⟩
        · have := hs.2
          cases d <;> first | rfl | simp [flat] at this
        · have := hs.2
          cases d <;> first | (simp [flat] at this; done) | simp [PyData.depth]
        · have e : (l.countP fun e => deq e d) = l.countP fun z => PyData.eqv z d := by
            congr 1
            funext z
            exact deq_eqv z d
          rw [← e]; exact q
      · cases h
    · cases h) fun u k h => by
    unfold fCnt at h
    split at h
    · rename_i l hl; exact ⟨l, hl⟩
    · cases h
theorem so_idx {y : V} {d : PyData} (i : Nat) (hd : ∀ F : Hp, Dp K F y d) : SoundE c (tBM K "list" (rIndex K) (tVar i) (tCons (tC y) tNil)) (sLm (fIdx d) i) := so_lm i (fun a F H x u k Q sub iu h q => by
    unfold fIdx at h
    split at h
    · rename_i l hl
      split at h
      · rename_i hs
        rw [Bool.and_eq_true] at hs
        obtain ⟨p, xs, rfl, r, hx⟩ := iu.lst sub hl
        cases hj : l.findIdx? fun e => deq e d with
        | none => rw [hj] at h; cases h
        | some j =>
          rw [hj] at h
          cases h
          obtain ⟨h1, h2, h3⟩ := List.findIdx?_eq_some_iff_getElem.mp hj
          obtain ⟨z, hz, dz⟩ := dps_at hx (List.getElem?_eq_getElem h1)
          have fl : ∀ e ∈ l, flat e = true := fun e he => List.all_eq_true.mp hs.1 e he
          refine ⟨p, xs, y, j, z, rfl, rfl, .inl r, flat_V (hd F) hs.2, flat_Vs hx hs.1, hz, ?_, fun m z' hm hz' => ?_, q⟩
          · rw [flat_eq (hd F) dz hs.2 (fl _ (List.getElem_mem _))]; exact h2
          · have hml : m < l.length := by omega
            obtain ⟨z2, hz2, dz2⟩ := dps_at hx (List.getElem?_eq_getElem hml)
            rw [hz2] at hz'
            cases hz'
            rw [flat_eq (hd F) dz2 hs.2 (fl _ (List.getElem_mem _))]
            simpa using h3 m hm
      · cases h
    · cases h) fun u k h => by
    unfold fIdx at h
    split at h
    · rename_i l hl; exact ⟨l, hl⟩
    · cases h
end
/-! ### what a refusal is told as -/
def refT (K : FR) (mg : Str → Option Value) (ns : List Str) (Q : VK) : XK := fun cls d H => d = none ∧ ∃ (n : Str) (F : Hp), n ∈ ns ∧ (∃ p, mg n = some (.ref p) ∧ cls = .ref p) ∧ (∀ b o, F b = some o → H b = some o) ∧
  ∀ F2 H2 x, PExt F H F2 H2 → Dp K F2 x (.tuple [.str "refused", .str n]) → Q x H2
/-- what _law_told makes of a lambda's run -/
def TTref (K : FR) (mg : Str → Option Value) (ns : List Str) : (XK → Hp → VK → Prop) → Hp → VK → Prop := fun tl H Q => tl (refT K mg ns Q) H Q
/-- the classes: D's relation to those that are asked -/
def tellB (K : FR) (D BT WE : Addr) (cs : List (Addr × Bool)) : Bool :=
  decide (PySem.W.exmOne K (.ref D) (.ref BT) = some false) && decide (PySem.W.exmOne K (.ref D) (.ref WE) = some true) && cs.all fun p => decide (PySem.W.kitOne K (.ref D) (.ref p.1) = some p.2)
def excCB (K : FR) (D : Addr) : Bool :=
  decide (PySem.W.findIn K (.ref D) "__getattribute__" = some (some (.builtin "BaseException.__getattribute__"))) && decide (PySem.W.findIn K (.ref D) "__getattr__" = some none) && decide (PySem.W.subIn K (.ref D) (.type "BaseException") = some true) && PySem.W.hasDictIn K D &&
  decide (PySem.W.findIn K (.ref D) "__class__" = some (some (.builtin "object.__class__"))) && decide (PySem.W.specialIn K (.builtin "object.__class__") "__get__" = some (some (.builtin "getset_descriptor.__get__"))) && decide (PySem.W.takesIn K (.builtin "object.__class__") = some true) && decide (PySem.W.mroIn K D (.type "object") = some true)
theorem excCB_ok {K : FR} {D : Addr} (h : excCB K D = true) : ExcC K D := by
  simp only [excCB, Bool.and_eq_true, decide_eq_true_eq] at h
  obtain ⟨⟨⟨⟨⟨⟨⟨h1, h2⟩, h3⟩, h4⟩, h5⟩, h6⟩, h7⟩, h8⟩ := h
  exact ⟨h1, h2, h3, h4, h5, h6, h7, h8⟩
/-- the slots where the suite begins -/
def exEnv (n : Nat) : Env := (List.replicate n none).set 1 (some (.tok 0))
theorem suite_ok {K : FR} {mg : Str → Option Value} {ea : Addr} {t : TS} {m : MS Unit} {n : Nat} {d : PyData} (h : SoundS (⟨WEx K ea, mg, fun _ _ _ _ => False⟩ : Ctx K) t m) (hm : m (exEnv n) () = .rt (.dat d) ()) {σ : L2.St} {F H : Hp} {D : Ends} (hl : σ.length = n) (hn : 1 < n)
    (sub : ∀ b o, F b = some o → H b = some o) (q : ∀ F2 H2 x, PExt F H F2 H2 → Dp K F2 x d → D.rt x H2) : t (endsN 1 D) (σ.set 1 (some (.ref ea))) H := by
  refine h () F H () () F H _ (exEnv n) _ ⟨Ext.refl sub, trivial, by simp [exEnv, hl], fun i v hi => ?_, fun i l hi => ?_, fun i l p hi => ?_⟩ ?_
  · by_cases e : i = 1
    · subst e
      have e2 : v = .tok 0 := by
        unfold exEnv at hi
        rw [List.getElem?_set_self (by simpa using hn)] at hi
        simpa using hi.symm
      subst e2
      refine ⟨.ref ea, by rw [List.getElem?_set_self (by omega)], ?_⟩
      exact (⟨ea, by simp, rfl⟩ : ∃ p, (if (0 : Nat) = 0 then some ea else none) = some p ∧ V.ref ea = V.ref p)
    · unfold exEnv at hi
      rw [List.getElem?_set_ne (Ne.symm e), List.getElem?_replicate] at hi
      split at hi <;> simp at hi
  · unfold exEnv at hi
    by_cases e : i = 1
    · subst e
      rw [List.getElem?_set_self (by simpa using hn)] at hi
      simp at hi
    · rw [List.getElem?_set_ne (Ne.symm e), List.getElem?_replicate] at hi
      split at hi <;> simp at hi
  · unfold exEnv at hi
    by_cases e : i = 1
    · subst e
      rw [List.getElem?_set_self (by simpa using hn)] at hi
      simp at hi
    · rw [List.getElem?_set_ne (Ne.symm e), List.getElem?_replicate] at hi
      split at hi <;> simp at hi
  · rw [hm]
    intro a' F' H' x e _ i _
    exact q F' H' x ⟨e.ff, e.fh, fun b z f => ⟨(e.st b z f (fun y => y)).1, (e.st b z f (fun y => y)).2.1⟩⟩ i
/-! ### a world with a table -/
structure TabW {K : FR} (W : Wld K) (P : Addr) (q : Str) : Prop where
  tab : ∀ {a : W.A} {g : W.G} {F H : Hp}, W.at_ a g F H → (∀ b o, F b = some o → H b = some o) → TabS H P q
  made : ∀ {a : W.A} {g : W.G} {F H H1 : Hp}, W.at_ a g F H → (∀ b o, F b = some o → H b = some o) → Lamd P q H H1 → ∃ F1, Ext W a F H a F1 H1 ∧ W.at_ a g F1 H1
/-- the table's codes are known -/
def TabF (F H : Hp) (P : Addr) (q : Str) : Prop := F P = none ∧ ∃ ps : Array Value, H P = some (.tbl ps) ∧ TriplesOk ps.toList ∧ ∀ (p : Pos) (cv : Value), codeAmong p ps.toList = some cv → ∃ c, cv = .ref c ∧ F c = some (CodeO c q)
@[reducible] def WT {K : FR} (W : Wld K) (P : Addr) (q : Str) : Wld K where
  G := W.G
  A := W.A
  tok := W.tok
  reg := fun a b => W.reg a b ∨ b = P
  at_ := fun a g F H => W.at_ a g F H ∧ TabF F H P q ∧ ¬ W.reg a P
  keep := fun {a g F H F' H'} h ff hr => by
    obtain ⟨h1, ⟨h2, ps, h3, h4, h5⟩, h6⟩ := h
    obtain ⟨r1, r2⟩ := hr P (.inr rfl)
    refine ⟨W.keep h1 ff fun b z => hr b (.inl z), ⟨r1, ps, r2.trans h3, h4, fun p cv z => ?_⟩, h6⟩
    obtain ⟨c, q1, q2⟩ := h5 p cv z
    exact ⟨c, q1, ff _ _ q2⟩
  off := fun {a g F H b} h r => by
    obtain ⟨h1, ⟨h2, ps, h3, h4, h5⟩, h6⟩ := h
    rcases r with r | rfl
    · exact W.off h1 r
    · exact ⟨h2, by rw [h3]; simp⟩
section
variable {K : FR} {W : Wld K} {P : Addr} {q : Str}
/-- a code object is known -/
theorem lam_ext {a : W.A} {g : W.G} {F H : Hp} {ps more : Array Value} {c : Addr} (t : W.at_ a g F H) (sub : ∀ b o, F b = some o → H b = some o) (fP : F P = none) (nr : ∀ b, W.reg a b → b ≠ P) (hP : H P = some (.tbl ps)) (hc : H c = none) :
    W.at_ a g (upd F c (CodeO c q)) (upd (upd H P (.tbl (ps ++ more))) c (CodeO c q)) := by
  refine W.keep t (fun b o z => ?_) fun b z => ?_
  · rw [upd_ne (ne_of_none (sub b o z) hc)]; exact z
  · obtain ⟨z1, z2⟩ := W.off t z
    have n : b ≠ c := fun e => by subst e; exact z2 hc
    rw [upd_ne n, upd_ne n, upd_ne (nr b z)]
    exact ⟨z1, rfl⟩
theorem tabW_WT : TabW (WT W P q) P q where
  tab := fun {a g F H} h sub => by
    obtain ⟨_, ⟨_, ps, h3, h4, h5⟩, _⟩ := h
    exact ⟨ps, h3, h4, fun p cv z => let ⟨c, q1, q2⟩ := h5 p cv z; ⟨c, q1, sub _ _ q2⟩⟩
  made := fun {a g F H H1} h sub l => by
    rcases l with rfl | ⟨ps', more, c, hP, hc, rfl, ht, ha⟩
    · exact ⟨F, Ext.refl sub, h⟩
    · obtain ⟨h1, ⟨h2, ps, h3, h4, h5⟩, h6⟩ := h
      rw [hP] at h3
      cases h3
      have nPc : P ≠ c := fun e => by rw [e, hc] at hP; cases hP
      have fc : F c = none := by
        cases z : F c with
        | none => rfl
        | some o => rw [sub _ _ z] at hc; cases hc
      refine ⟨upd F c (CodeO c q), ⟨fun b o z => ?_, fun b o z => ?_, fun b z f r => ?_, fun b z f r => ?_, fun b z => ?_, fun i b z => z⟩, lam_ext h1 sub h2 (fun b z e => h6 (by rw [← e]; exact z)) hP hc, ⟨?_, _, ?_, ht, fun p cv z => ?_⟩, h6⟩
      · rw [upd_ne (ne_of_none z fc)]; exact z
      · by_cases e : b = c
        · subst e; rw [upd_same] at z ⊢; exact z
        · rw [upd_ne e] at z ⊢
          have n : b ≠ P := fun y => by rw [y, h2] at z; cases z
          rw [upd_ne n]; exact sub _ _ z
      · have n : b ≠ c := fun e => by subst e; exact z hc
        have n2 : b ≠ P := fun e => r (.inr e)
        rw [upd_ne n, upd_ne n, upd_ne n2]
        exact ⟨f, rfl, r⟩
      · have n : b ≠ c := fun e => by subst e; exact z hc
        rw [upd_ne n]; exact f
      · by_cases e : b = c
        · subst e; rw [upd_same]; simp
        · rw [upd_ne e]
          by_cases e2 : b = P
          · subst e2; rw [upd_same]; simp
          · rw [upd_ne e2]; exact z
      · rw [upd_ne nPc]; exact h2
      · rw [upd_ne nPc, upd_same]
      · rcases ha p cv z with y | y
        · obtain ⟨c2, q1, q2⟩ := h5 p cv y
          exact ⟨c2, q1, by rw [upd_ne (ne_of_none q2 fc)]; exact q2⟩
        · exact ⟨c, y, upd_same⟩
/-- what is done in the world is done beside the table -/
theorem WT.up {a a' : W.A} {g g' : W.G} {F H F' H' : Hp} (t : (WT W P q).at_ a g F H) (e : Ext W a F H a' F' H') (t' : W.at_ a' g' F' H') : Ext (WT W P q) a F H a' F' H' ∧ (WT W P q).at_ a' g' F' H' := by
  obtain ⟨h1, ⟨h2, ps, h3, h4, h5⟩, h6⟩ := t
  obtain ⟨z1, z2, z3⟩ := e.st P (by rw [h3]; simp) h2 h6
  refine ⟨⟨e.ff, e.fh, fun b z f r => ?_, fun b z f r => ?_, e.al, e.tk⟩, t', ⟨z1, ps, z2.trans h3, h4, fun p cv z => ?_⟩, z3⟩
  · obtain ⟨y1, y2, y3⟩ := e.st b z f fun y => r (.inl y)
    refine ⟨y1, y2, fun y => ?_⟩
    rcases y with y | y
    · exact y3 y
    · exact r (.inr y)
  · rcases r with r | rfl
    · exact e.rg b z f r
    · exact z1
  · obtain ⟨c, q1, q2⟩ := h5 p cv z
    exact ⟨c, q1, e.ff _ _ q2⟩
theorem spT_up {mg : Str → Option Value} {n0 n : Nat} {f : List PyData → W.G → R Vl W.G} {vs : List V} {H : Hp} {Q : VK} {E : XK} (h : spT (WT W P q) mg n0 n f vs H Q E) : spT W mg n0 n f vs H Q E := by
  obtain ⟨hl, al, g, F, p, ws, ds, e, hp, sub, t, hd, post⟩ := h
  refine ⟨hl, al, g, F, p, ws, ds, e, hp, sub, t.1, hd, ?_⟩
  cases hf : f ds g with
  | no => rw [hf] at post; exact post
  | er er g' =>
    rw [hf] at post
    exact fun a' F' H' C d e2 t2 i => let ⟨e3, t3⟩ := WT.up t e2 t2; post a' F' H' C d e3 t3 i
  | ok v g' =>
    rw [hf] at post
    refine fun a' F' H' x e2 t2 i n => ?_
    obtain ⟨e3, t3⟩ := WT.up t e2 t2
    refine post a' F' H' x e3 t3 ?_ n
    cases v with
    | dat d => exact i
    | tok k => exact i
    | own l =>
      obtain ⟨p2, xs, e4, hp2, hd2, f2, r2⟩ := i
      refine ⟨p2, xs, e4, hp2, hd2, f2, fun y => ?_⟩
      rcases y with y | rfl
      · exact r2 y
      · obtain ⟨_, ⟨_, ps, h3, _⟩, _⟩ := t3
        rw [hp2] at h3
        cases h3
    | lent l =>
      obtain ⟨p2, xs, e4, hp2, hd2, f2, r2⟩ := i
      refine ⟨p2, xs, e4, hp2, hd2, f2, fun y => ?_⟩
      rcases y with y | rfl
      · exact r2 y
      · obtain ⟨_, ⟨_, ps, h3, _⟩, _⟩ := t3
        rw [hp2] at h3
        cases h3
end
section
variable {P : Program} {w : World} {K : FR} {mg : Str → Option Value} {base : Heap} {k : Nat} {x : Str} {ps : List Str} {dvs : List V}
theorem FnOk.imp {CX : CXT} {f : Addr} {fd : FuncData} {sp sp' : Sp} (F : FnOk P w K mg base CX k f fd ps sp) (h : ∀ vs H Q E, sp' vs H Q E → sp vs H Q E) : FnOk P w K mg base CX k f fd ps sp' :=
  ⟨fun vs H Q E z => F.len vs H Q E (h vs H Q E z), fun A out s H args us vs Q E hr e0 hb r z => F.run A out s H args us vs Q E hr e0 hb r (h vs H Q E z)⟩
theorem Has.imp {sp sp' : Sp} (F : Has P w K mg base k x ps dvs sp) (h : ∀ vs H Q E, sp' vs H Q E → sp vs H Q E) : Has P w K mg base k x ps dvs sp' := by
  obtain ⟨f, fd, ds, F, r⟩ := F
  exact ⟨f, fd, ds, F.imp h, r⟩
theorem Has.up {W : Wld K} {Pt : Addr} {q : Str} {n0 n : Nat} {f : List PyData → W.G → R Vl W.G} (F : Has P w K mg base k x ps dvs (spT W mg n0 n f)) : Has P w K mg base k x ps dvs (spT (WT W Pt q) mg n0 n f) := F.imp fun _ _ _ _ => spT_up
end
/-! ### the rule -/
section
variable {K : FR} {c : Ctx K}
theorem so_told {P : Addr} {q : Str} {ns : List Str} {t : XK → TE} {m : ME c.W.G} (T : TabW c.W P q) (h : ∀ E : XK, SoundE (⟨c.W, c.mg, fun C d _ H => E C d H⟩ : Ctx K) (t E) m) :
    SoundE c (tLam1 P q (TTref K c.mg ns) t) (sTold ns m) := by
  intro a0 F0 H0 a g F H s r Q rp post
  refine ⟨T.tab rp.at_ rp.sub, fun H1 l => ?_⟩
  obtain ⟨F1, e1, t1⟩ := T.made rp.at_ rp.sub l
  refine h _ a0 F0 H0 a g F1 H1 s r Q (rp.step e1 t1) ?_
  unfold sTold at post
  cases hm : m r g with
  | no => rw [hm] at post; exact post.elim
  | er e g1 =>
    rw [hm] at post
    simp only at post
    split at post
    · rename_i hc
      intro a2 F2 H2 C d e2 t2 i
      obtain ⟨hp, hd⟩ := i
      rw [hc.2] at hd
      refine ⟨hd, e.cls, F2, hc.1, hp, e2.fh, fun F3 H3 x e3 i3 => ?_⟩
      have e4 : Ext c.W a2 F2 H2 a2 F3 H3 := Ext.of e2.fh e3
      refine post a2 F3 H3 x (e1.trans (e2.trans e4)) (at_of t2 e3) ?_ trivial
      show Dp K F3 x (refD e)
      unfold refD
      rw [hc.2]
      exact i3
    · exact post.elim
  | ok v g1 =>
    rw [hm] at post
    intro a2 F2 H2 x e2 t2 i n
    cases v with
    | lent l => exact post.elim
    | dat d => exact post a2 F2 H2 x (e1.trans e2) t2 i (n.back e1.al)
    | own d => exact post a2 F2 H2 x (e1.trans e2) t2 i (n.back e1.al)
    | tok d => exact post a2 F2 H2 x (e1.trans e2) t2 i (n.back e1.al)
end
/-! ### the def that tells -/
/-- the clauses' classes: BT never, WE always; the suite tells (refused, n) -/
theorem tells_ok {X : Cx} {Ng : List Str} {x a en BTn WEn : Str} {sg : Scope} {g BT WE : Addr} {cdg : Value} {q : Str} {ns : List Str} {b0 b1 : Stmt} {su0 su1 : List Stmt} {p1 p2 p3 p4 p5 p6 p7 p8 : Pos} (hN : Ng.Nodup) (h1 : Ng[1]? = some en) (hl : sg.names.lookup en = some .local) (h0 : 2 ≤ Ng.length)
    (gB : sg.names.lookup BTn = some .globalImplicit) (gW : sg.names.lookup WEn = some .globalImplicit) (mB : X.mg BTn = some (.ref BT)) (mW : X.mg WEn = some (.ref WE)) (dB : (BTn == ("__debug__" : Str)) = false) (dW : (WEn == ("__debug__" : Str)) = false)
    (hc : ∀ n ∈ ns, ∀ p, X.mg n = some (.ref p) → PySem.W.exmOne X.K (.ref p) (.ref BT) = some false ∧ PySem.W.exmOne X.K (.ref p) (.ref WE) = some true ∧
      ∀ (s : Shared) (H : Hp) (ea : Addr) (oe : Obj) (pn : List (Addr × Obj)), Zc (.ref p) none oe → (∃ vs, oe.data = .fields vs) → Room 0 (X.A.deeper (envOfC x sg s.heap.objs.size g cdg)) →
        ∃ (t : TS) (m : MS Unit), PSs ((cxOf CX0 X.prog X.w X.K X.mg X.base Ng x sg g cdg X.A X.stack s H C8.E0).nox.suite ea ((ea, oe) :: pn)) (b1 :: su1) t ∧ SoundS (⟨WEx X.K ea, X.mg, fun _ _ _ _ => False⟩ : Ctx X.K) t m ∧ m (exEnv Ng.length) () = .rt (.dat (.tuple [.str "refused", .str n])) ()) :
    Tells X Ng x sg g cdg [.Try [.Return (some (.Call (.Name a p1) [] [] p2)) p3] [.ExceptHandler (some (.Name BTn p4)) (some en) (b0 :: su0) p5, .ExceptHandler (some (.Name WEn p6)) (some en) (b1 :: su1) p7] [] [] p8] a q (TTref X.K X.mg ns) := by
  intro f c' s H Q tl hr act hco h
  have gB' : Gl (cxOf CX0 X.prog X.w X.K X.mg X.base Ng x sg g cdg X.A X.stack s H C8.E0).nox BTn := gB
  have gW' : Gl (cxOf CX0 X.prog X.w X.K X.mg X.base Ng x sg g cdg X.A X.stack s H C8.E0).nox WEn := gW
  have lk : (cxOf CX0 X.prog X.w X.K X.mg X.base Ng x sg g cdg X.A X.stack s H C8.E0).nox.env.kindOf en = some .local := hl
  refine ⟨_, pss_one (ps_tryN (X := (cxOf CX0 X.prog X.w X.K X.mg X.base Ng x sg g cdg X.A X.stack s H C8.E0).nox)
      (tb := fun W D σ H => ∃ E : XK, (∀ cls d σ' H', σ'.length = Ng.length → E cls d H' → W cls d σ' H') ∧ σ[0]? = some (some (.ref f)) ∧ H c' = some (CodeO c' q) ∧ tl E H D.rt)
      rfl rfl hN L2.takes0 (fun W pn xe tk _ => ?_)
      (.cons (i := 1) (ts := fun _ _ _ _ _ _ => False) h1 lk ⟨gB', dB, .inl mB⟩ (fun a oe cls d pn _ _ => ⟨fun _ _ _ _ _ _ z => z.elim⟩)
        (.cons (i := 1) (ts := fun ea cls d D σ H2 => ∀ (oe : Obj) (pn : List (Addr × Obj)), Zc cls d oe → (∃ vs, oe.data = .fields vs) → ∃ t : TS, PSs ((cxOf CX0 X.prog X.w X.K X.mg X.base Ng x sg g cdg X.A X.stack s H C8.E0).nox.suite ea ((ea, oe) :: pn)) (b1 :: su1) t ∧ t D σ H2)
          h1 lk ⟨gW', dW, .inl mW⟩ (fun a oe cls d pn hz hv => ⟨fun pins s' σ H' D I z => ?_⟩) .nil))), ?_⟩
  · constructor
    intro pins s' σ H' D I ⟨E, hW, e1, e2, e3⟩
    exact (pss_one (ps_ret (pos := p3) (act W pn xe E p1 p2 tk hW))).run pins s' σ H' D I ⟨e1, e2, e3⟩
  · obtain ⟨t, z1, z2⟩ := z oe pn hz hv
    exact z1.run pins s' σ H' D I z2
  · refine ⟨refT X.K X.mg ns Q, fun cls d σ' H' hlen hh => ?_, by simp [L2.start], hco, h⟩
    obtain ⟨rfl, n, F, hn, ⟨p, hp, rfl⟩, sub, q2⟩ := hh
    obtain ⟨c2, c3, c4⟩ := hc n hn p hp
    refine ⟨false, c2, (fun z => by cases z), fun _ => ⟨true, c3, fun _ ea hea oe pn hz hv => ?_, fun z => by cases z⟩⟩
    obtain ⟨t, m, z1, hm1, hm2⟩ := c4 s H ea oe pn hz hv hr
    exact ⟨t, z1, suite_ok hm1 hm2 hlen (by omega) sub q2⟩
/-- the law's promise where a table is looked at -/
def spLawT (K : FR) (P : Addr) : Sp := fun vs H Q _ => ∃ (a : Addr) (ns : List Int), vs = [.ref a] ∧ SqL K H a (ns.map V.int) ∧ ns.length ≤ 63 ∧ H P = some (.tbl #[]) ∧ ∀ H', Q (.bl true) H'
theorem spLawT_len {K : FR} {P : Addr} {vs : List V} {H : Hp} {Q : VK} {E : XK} (h : spLawT K P vs H Q E) : vs.length = 1 := by
  obtain ⟨a, ns, rfl, _⟩ := h
  rfl
theorem law_okT {K : FR} {mg : Str → Option Value} {N : List Str} {P : Addr} {q : Str} {t : TS} {m : MS DG} (h : SoundS (⟨WT (WD K) P q, mg, fun _ _ _ _ => False⟩ : Ctx K) t m) (tr : ∀ ns : List Int, ns.length ≤ 63 → ∃ g', runT 0 0 N.length m [] ⟨ns, none⟩ = .ok (.dat (.bool true)) g')
    {vs : List V} {H : Hp} {Q : VK} {E : XK} (sp : spLawT K P vs H Q E) : t { nx := fun _ H' => Q .non H', rt := Q } (L2.start N vs) H := by
  obtain ⟨a, ns, rfl, hS, hl, hP, k⟩ := sp
  obtain ⟨g', hg⟩ := tr ns hl
  have ff : ∀ b o, (if b = P then none else H b) = some o → H b = some o := fun b o z => by
    split at z
    · cases z
    · exact z
  have hS2 : SqL K (fun b => if b = P then none else H b) a (ns.map V.int) := by
    rcases hS with z | z
    · have n : a ≠ P := fun e => by
        subst e
        rcases z with z | ⟨o, z⟩ <;> (rw [hP] at z; cases z)
      refine .inl ?_
      rcases z with z | ⟨o, z⟩
      · exact .inl (by simp only [if_neg n]; exact z)
      · exact .inr ⟨o, by simp only [if_neg n]; exact z⟩
    · exact .inr z
  refine bodyT_ok (W := WT (WD K) P q) (mg := mg) (E := fun _ _ _ => False) (n0 := 0) (k := 0) (fun _ _ _ _ z => z) h ⟨rfl, (a, none), ⟨ns, none⟩, _, a, [], [], rfl, rfl, ff, ⟨⟨hS2, Nat.le_trans hl (by decide), True.intro⟩, ⟨if_pos rfl, #[], hP, True.intro, fun p cv z => ?_⟩, fun z => ?_⟩, .nil, ?_⟩
  · have z' : codeAmong p [] = some cv := z
    simp [codeAmong] at z'
  · have z' : (none : Option Addr) = some P := z
    cases z'
  · rw [hg]
    intro a' F' H' x e t i n
    have e2 := dp_bool i
    subst e2
    exact k H'
end CW
/-! CwTell: _law_told as a def that stands; the end of a law that makes lambdas. -/
namespace CW
open PySem PySem.Spec PyProof.Rows L2 LamX
/-- what no run reaches -/
theorem pe_no {X : Cx} {e : Expr} : PE X e (fun _ _ _ => False) := ⟨fun _ _ _ _ _ _ h => h.elim⟩
theorem so_no {K : FR} {c : Ctx K} : SoundE c (fun _ _ _ => False) sNo := fun _ _ _ _ _ _ _ _ _ _ _ post => post.elim
/-- x is a def of the module that tells what its one argument told, or the refusal's name -/
def HasT (K : FR) (mg : Str → Option Value) (x : Str) (ns : List Str) : Prop := ∃ (g : Addr) (fd : FuncData) (ag : Arguments) (bg : List Stmt) (sg : Scope) (Ng : List Str) (a : Str), FunD K x x ag bg sg [] [] g fd ∧ mg x = some (.ref g) ∧ PySem.W.keepIn K (.ref g) = true ∧
  L2.Binds K fd [a] [] ∧ FnScope Ng [a] sg ∧ Ng[0]? = some a ∧ Vis sg a ∧ (a == ("__debug__" : Str)) = false ∧ (a == ("__classdict__" : Str)) = false ∧
  ∀ (X : Cx) (cdg : Value) (q : Str), X.K = K → X.mg = mg → Tells X Ng x sg g cdg bg a q (TTref K mg ns)
theorem pe_toldH {X : Cx} {x : Str} {ns : List Str} {c P : Addr} {k : Nat} {ar : Arguments} {body : Expr} {sc : Scope} {t : XK → TE} {p lpos pos : Pos} (h : HasT X.K X.mg x ns) (hg : Gl X x) (B : TabB X.base X.mg c P) (hc : X.env.code = .ref c) (hr : Room (k + 2) X.A)
    (L : LamS1 X.N X.env.scope sc) (hB : LamB ar body sc) (hk0 : ar.kw_defaults = []) (hd0 : ar.defaults = [] ∨ ∃ j p2, ar.defaults = [.Constant (.int 0) j p2])
    (run : ∀ (A : Around) (out : List PySem.Env) (s : Shared) (H : Hp) (E : XK) (f c' : Addr), Room k (A.deeper (lamEnv X sc s.heap.objs.size f c')) → PE (lamCx X A out s H E sc f c') body (t E))
    (hdb : (x == ("__debug__" : Str)) = false := by decide) : PE X (.Call (.Name x p) [.Lambda ar body sc lpos] [] pos) (tLam1 P (X.env.qual ++ "<lambda>") (TTref X.K X.mg ns) t) := by
  obtain ⟨g, fd, ag, bg, sg, Ng, a, F, hm, hk, hb, S, h0, hv, d1, d2, T⟩ := h
  exact pe_told hg hm hk F hb S h0 hv (fun cdg => T X cdg _ rfl rfl) B hc hr L hB hk0 hd0 run hdb d1 d2
/-- the law, whose code object stands at c -/
theorem law_fnT {P : Program} {w : World} {K : FR} {mg : Str → Option Value} {base : Heap} {ar : Arguments} {body : List Stmt} {sc : Scope} {dV kV doc pm ct oc : Value} {an od : Option Addr} {osl : Array (Option Value)} {f c Pt : Addr} {N : List Str} {x : Str} {k : Nat}
    (lk : K.lookup f = some ⟨oc, od, .func (PySem.W.fnOf "law" "law" ar body sc dV kV doc pm an (.ref c) ct), osl⟩) (hcd : PySem.W.codeIn K (.ref c) "law" = true) (S : FnScope N [x] sc)
    (hb : ∀ (A : Around) (out : List PySem.Env) (s : Shared) (H : Hp) (vs : List V) (Q : VK) (E : XK), Room k (A.deeper (envOfC "law" sc s.heap.objs.size f (.ref c))) → spLawT K Pt vs H Q E →
      ∃ t, PSs (cxOf CX0 P w K mg base N "law" sc f (.ref c) A out s H E).nox body t ∧ t { nx := fun _ H' => Q .non H', rt := Q } (L2.start N vs) H) :
    FnOk P w K mg base CX0 (k + 1) f (PySem.W.fnOf "law" "law" ar body sc dV kV doc pm an (.ref c) ct) [x] (spLawT K Pt) :=
  fn_of lk hcd S (fun vs H Q E h => spLawT_len h) fun A out s H vs Q E hr h => let ⟨t, h1, h2⟩ := hb A out s H vs Q E hr h; ⟨t, h1.nox, h2⟩
theorem walkT {l : PySem.W.OpenLaw} {q : Program} {loose : List Str} {XP : (Str → Option Value) → Heap → Prop} {YP : World → Heap → Prop} {d : DefRec} {K : Params → FR} {x : Str} (k : Nat) (hn : l.most = some 63) (hdf : d.params.defaults = []) (hr : Room k callerA) (hrec : ((recsOf q).any fun e => e.name == d.name) = true)
    (hY : ∀ (w : World) (h : Heap), YP w h → (K w.params).In h)
    (F : ∀ (w : World) (mg : Str → Option Value) (fa : Addr) (h : Heap), (K w.params).In h → h.Ns mainGlobals mg → mg d.name = some (.ref fa) →
      ∃ (fd : FuncData) (oc : Value) (od : Option Addr) (osl : Array (Option Value)) (c P : Addr) (e : Value) (dd : Option Addr) (vs : Array Value) (sl : Array (Option Value)), (K w.params).lookup fa = some ⟨oc, od, .func fd, osl⟩ ∧ fd.code = .ref c ∧ (K w.params).lookup c = some ⟨e, dd, .fields vs, sl⟩ ∧ vs[11]? = some (.ref P) ∧
        PySem.W.codeHdIn (K w.params) c P = true ∧ (K w.params).lookup P = none ∧ (∀ (s : Shared) (u : Value), BindsTo s fd ⟨[u], []⟩ [(x, u)]) ∧
        ∀ base : Heap, (K w.params).In base → base.Ns mainGlobals mg → TabB base mg c P → FnOk l.prog w (K w.params) mg base CX0 k fa fd [x] (spLawT (K w.params) P)) :
    PySem.W.WalkO q loose XP YP l.row.toRowW d [] (fun f vs => PySem.call f vs) := by
  refine walk_ofOwn (n := 63) (k := k) (x := x) (CX := fun _ => CX0) hn (by decide) hdf hr hrec hY (fun w mg fa h Y KX G hm own => ?_) fun _ _ _ _ _ z => z
  obtain ⟨fd, oc, od, osl, c, P, e, dd, vs, sl, h1, h2, h3, h4, h5, h6, h7, h8⟩ := F w mg fa h KX G hm
  have one : ∀ {R : Addr × Addr → Prop}, R (c, P) → ∀ p ∈ [(c, P)], R p := fun {R} z p hp => by
    rw [List.mem_singleton.mp hp]; exact z
  refine ⟨fd, [(c, P)], spLawT (K w.params) P, one (own c P _ fd e dd vs sl h1 rfl h2 h3 h4), one h6, one (PySem.W.codeHd_of_K KX h5), h7, fun H a ns hl _ hT hS => ⟨a, ns, rfl, hS, hl, hT (c, P) (List.mem_singleton.mpr rfl), fun _ => rfl⟩, fun base KB GB hB => h8 base KB GB (hB (c, P) (List.mem_singleton.mpr rfl))⟩
end CW
/-! CwRng: range(i, j, -1); enumerate(range(n)). -/
namespace CW
open PySem PySem.Spec PyProof.Rows L2
section
variable {K : FR} {F : Hp}
theorem rngD_len {lo : Int} {n : Nat} : (rngD lo n).length = n := by simp [rngD]
theorem rngD_at {lo : Int} {n i : Nat} (h : i < n) : (rngD lo n)[i]? = some (.int (lo + (i : Nat) * (-1))) := by
  unfold rngD
  simp [h]
theorem wk_rangeD {lo : Int} {n : Nat} : Wk K (Itc lo (-1) n) (rngD lo n) F := by
  refine ⟨fun _ => True, YFn fun i => .int (lo + (i : Nat) * (-1)), ?_, fun _ _ _ _ => True.intro, fun i F2 H2 x H3 e1 e2 y hi => ?_⟩
  · rw [rngD_len]
    exact ⟨fun i H hi _ => hi, fun H _ => Nat.le_refl _, fun i H x H' hi _ y => y⟩
  · obtain ⟨rfl, rfl⟩ := y
    rw [rngD_len] at hi
    exact ⟨F2, _, PExt.refl e2, rngD_at hi, .int _⟩
end
section
variable {K : FR} {c : Ctx K}
theorem si_rngS {t u v : TE} {m n o : ME c.W.G} (ht : SoundE c t m) (hu : SoundE c u n) (hv : SoundE c v o) : SoundI c (L2.iRng3 (tCons t (tCons u (tCons v tNil)))) (iRngS m n o) := by
  intro a0 F0 H0 a g F H s r Rk rp post
  refine ht _ _ _ _ _ _ _ _ _ _ rp ?_
  unfold iRngS at post
  cases h : m r g with
  | no => rw [h] at post; exact post
  | er e g1 => rw [h] at post; exact post
  | ok v1 g1 =>
    rw [h] at post
    simp only [R.bind_ok] at post
    intro a1 F1 H1 x e1 t1 i1 n1
    refine hu _ _ _ _ _ _ _ _ _ _ (rp.step e1 t1) ?_
    cases h2 : n r g1 with
    | no => rw [h2] at post; exact post
    | er e g2 =>
      rw [h2] at post
      exact fun a' F' H' C d e' t i => post a' F' H' C d (e1.trans e') t i
    | ok w g2 =>
      rw [h2] at post
      simp only [R.bind_ok] at post
      intro a2 F2 H2 y e2 t2 i2 n2
      refine hv _ _ _ _ _ _ _ _ _ _ ((rp.step e1 t1).step e2 t2) ?_
      cases h3 : o r g2 with
      | no => rw [h3] at post; exact post
      | er e g3 =>
        rw [h3] at post
        exact fun a' F' H' C d e' t i => post a' F' H' C d ((e1.trans e2).trans e') t i
      | ok z g3 =>
        rw [h3] at post
        simp only [R.bind_ok] at post
        intro a3 F3 H3 x3 e3 t3 i3 n3
        split at post
        · rename_i i j k
          by_cases hj : inRng i = true ∧ inRng j = true ∧ k = -1
          · rw [if_pos hj] at post
            obtain ⟨hi', hj', rfl⟩ := hj
            rw [inRng_iff] at hi' hj'
            cases i1
            cases i2
            cases i3
            refine ⟨i, j, -1, (i - j).toNat, rfl, RgC.neg (by omega) (by omega) (by omega) (by omega), post a3 F3 H3 _ ((e1.trans e2).trans e3) t3 wk_rangeD⟩
          · rw [if_neg hj] at post; exact post.elim
        · exact post.elim
end
/-! ### a range is drawn from -/
section
variable {prog : Program} {w : World} {A : Around} {E : Value → Shared → Prop} {s : Shared}
theorem nextOf_range_item {it : Addr} {x left step : Int} {Q : Value → Shared → Prop} (hit : IsRangeIter s.heap it x left step) (hl : 0 < left)
    (hQ : ∀ h', IsRangeIter h' it (x + step) (left - 1) step → Heap.SameBut it s.heap h' → Q (.int x s.toks) { s with heap := h', toks := s.toks + 1 }) : wpAny (model prog w) A (Builtin.SmallTypes.nextOf (.ref it)) Q E s := by
  have hT : s.TypeIs (.ref it) "range_iterator" := ⟨_, hit, rfl⟩
  unfold Builtin.SmallTypes.nextOf
  refine wpAny_bind (wpAny_callSpecial?_slot (name := Str.ofString "__next__") hT F.slot_range_iterator_next
    (call_meets F.slot_range_iterator_next hT F.entry_range_iterator_next (F.args_range_iterator_next_1 _) (AutoRange.range_iterator___next___range_iterator_1 it x left step (by omega)) ⟨hit, ?_⟩))
  exact wpAny_pure (hQ _ (Heap.get?_update_self _ (Heap.get?_update_self _ hit rfl) rfl) ((Heap.SameBut.update ..).trans (Heap.SameBut.update ..)))
theorem nextOf_range_end {it : Addr} {x left step : Int} {Q : Value → Shared → Prop} (hh : A.handled = none) (hit : IsRangeIter s.heap it x left step) (hl : left ≤ 0)
    (hE : ∀ h' e, Heap.ExtBut it s.heap h' → (∃ o, h'.get? e = some o ∧ o.cls = .type "StopIteration") → E (.ref e) { s with heap := h' }) : wpAny (model prog w) A (Builtin.SmallTypes.nextOf (.ref it)) Q E s := by
  have hT : s.TypeIs (.ref it) "range_iterator" := ⟨_, hit, rfl⟩
  unfold Builtin.SmallTypes.nextOf
  refine wpAny_bind (wpAny_callSpecial?_slot (name := Str.ofString "__next__") hT F.slot_range_iterator_next
    (wpAny_call_entry F.slot_range_iterator_next hT F.entry_range_iterator_next ?_ (F.args_range_iterator_next_1 _)))
  show wpAny _ _ (field (.ref it) 0 >>= _) _ _ s
  refine wpAny_bind (wpAny_field hit rfl (x := rawInt x) rfl ?_)
  show wpAny _ _ (field (.ref it) 1 >>= _) _ _ s
  refine wpAny_bind (wpAny_field hit rfl (x := rawInt left) rfl ?_)
  show wpAny _ _ (field (.ref it) 2 >>= _) _ _ s
  refine wpAny_bind (wpAny_field hit rfl (x := rawInt step) rfl ?_)
  show wpAny _ _ (if left ≤ 0 then _ else _) _ _ s
  rw [if_pos hl]
  refine wpAny_bind (wpAny_rule ?_)
  refine wpAny_bind ?_
  show wpAny _ _ (newExc (.type "StopIteration") [] >>= _) _ _ _
  refine wpAny_bind ?_
  simp only [newExc, newTuple]
  refine wpAny_bind (wpAny_newObj_type ?_ (by size_fits))
  refine wpAny_bind (m := firstArgMember _ _) (wpAny_of_eq (a := Value.none) (by first | rfl | (simp only [firstArgMember]; rfl)) ?_)
  refine wpAny_newObj_type ?_ (by size_fits)
  simp only [raiseNew]
  refine wpAny_bind (wpAny_handled ?_)
  first | rw [show A.in1.handled = none from hh] | rw [hh]
  refine wpAny_bind (wpAny_pure (wpAny_throw ?_))
  exact hE _ _ (((Heap.ExtBut.refl it s.heap).push _).push _) ⟨_, Heap.get?_push_size _ rfl, rfl⟩
end
theorem draws_range {prog : Program} {w : World} {A : Around} (hh : A.handled = none) (it : Addr) (a : Int) (n : Nat) :
    Draws prog w A it [it] n (fun i v => ∃ t, v = .int (a + (i : Nat)) t) (fun i h => IsRangeIter h it (a + (i : Nat)) ((n : Int) - (i : Nat)) 1) where
  live := fun _ _ st => ⟨_, st⟩
  frame := fun _ _ _ st hk => hk it (by simp) _ st
  item := fun i s Q E hi st hQ => by
    refine nextOf_range_item st (by omega) fun h' hit' hs' => hQ _ h' _ ⟨_, rfl⟩ ?_ hs'
    have e1 : a + ((i + 1 : Nat) : Int) = a + (i : Int) + 1 := by omega
    have e2 : (n : Int) - ((i + 1 : Nat) : Int) = (n : Int) - (i : Int) - 1 := by omega
    rw [e1, e2]
    exact hit'
  done := fun s Q E st hE => nextOf_range_end hh st (by omega) hE
/-- the pairs of enumerate(range(n)) -/
def IteR (n : Nat) : It := ⟨fun i _ => i < n, fun i H v H' => ∃ T, v = .ref T ∧ H T = none ∧ H' = upd H T (.tup [.int (i : Nat), .int (0 + (i : Nat))]), fun i _ => i = n⟩
theorem turn_enumR {P : Program} {w : World} {K : FR} {elts : List Expr} {kk : Nat} {tpos : Pos} (n : Nat) (e it : Addr) (hne : e ≠ it) :
    Turn P w K (.Tuple elts kk tpos) (IteR n) [e, it] e (fun i h => (∃ old, IsEnum h e it ((i : Nat) : Int) old) ∧ IsRangeIter h it (0 + (i : Nat)) ((n : Int) - (i : Nat)) 1) where
  mem := by simp
  obj := fun i h st b hb => by
    obtain ⟨⟨old, he⟩, hit⟩ := st
    have e' : b = e ∨ b = it := by simpa using hb
    rcases e' with z | z
    · rw [z]; exact ⟨_, he, fun v q => nomatch q⟩
    · rw [z]; exact ⟨_, hit, fun v q => nomatch q⟩
  keep := fun i h h' st k => let ⟨⟨old, he⟩, hi⟩ := st; ⟨⟨old, k e (by simp) _ he⟩, k it (by simp) _ hi⟩
  item := by
    intro X hP hw hK hc i pins s σ H E I hf st hg
    subst hP hw hK
    obtain ⟨⟨old, he⟩, hit⟩ := st
    have hel : e < s.heap.objs.size := Heap.lt_size he
    have hil : it < s.heap.objs.size := Heap.lt_size hit
    have hg' : i < n := hg
    refine wpAny_pyNext_enum_itemC (draws_range (A := X.A.in1) (I.ok.hd hc) it 0 n) he hit hg' hne (by simp [hne]) fun y h' tk hP ho hst' hT hsz hk => ?_
    obtain ⟨tt, rfl⟩ := hP
    refine ⟨_, rfl, wpAny_letOwnedTupleGo_enum (s := { s with heap := h', toks := tk + 1 }) ho fun h'' he' sb => ?_⟩
    have hT2 : h''.get? s.heap.objs.size = some { cls := .type "tuple", data := .seq #[.int i tk, .int (0 + (i : Nat)) tt] } := (sb.2 _ (Nat.ne_of_gt hel)).trans hT
    have new : ObjOk X.prog X.w (upd H s.heap.objs.size (.tup [.int (i : Nat), .int (0 + (i : Nat))])) h'' s.heap.objs.size (.tup [.int (i : Nat), .int (0 + (i : Nat))]) :=
      ⟨by show 2 ≤ sizeLine; decide, [.int i tk, .int (0 + (i : Nat)) tt], .cons ⟨_, rfl⟩ (.cons ⟨_, rfl⟩ .nil), ⟨_, hT2, rfl, _, rfl⟩⟩
    have I1 : Inv X pins σ (upd H s.heap.objs.size (.tup [.int (i : Nat), .int (0 + (i : Nat))])) { s with heap := h'', toks := tk + 1 } :=
      I.turnedNew (ch := [e, it]) (fun b ob hb q => (sb.2 b (fun z => hb (by simp [z]))).trans (hk b ob (fun z => hb (by simp [z])) (fun z => hb (by simp [z])) q)) hf (Nat.le_refl _) new
    refine ⟨.ref s.heap.objs.size, _, I1, rfl, ⟨_, rfl, I.hok.fresh (Nat.le_refl _), rfl⟩, ⟨⟨.int (0 + (i : Nat)) tt, ?_⟩, (sb.2 it (Ne.symm hne)).trans hst'⟩, fun b hb => ?_⟩
    · have e1 : ((i + 1 : Nat) : Int) = (i : Int) + 1 := by omega
      rw [e1]; exact he'
    · have hb' : b < s.heap.objs.size := by
        have e' : b = e ∨ b = it := by simpa using hb
        rcases e' with z | z
        · rw [z]; exact hel
        · rw [z]; exact hil
      rw [upd_ne (Nat.ne_of_lt hb')]
      exact (hf b hb).1
  done := by
    intro X hP hw hK hc i pins s σ H E I hf st hg
    subst hP hw hK
    obtain ⟨⟨old, he⟩, hit⟩ := st
    obtain ⟨f0, f1, f2, f3, f4, f5⟩ := hf it (by simp)
    have hg' : i = n := hg
    subst hg'
    exact wpAny_pyNext_enum_endD (draws_range (A := X.A.in1) (I.ok.hd hc) it 0 i) he hit fun h' eb => ⟨rfl, I.turned (t' := s.toks) (fun b o hb q => eb b o hb q) f0 f1 f3 f4 f5⟩
  self := fun A i s Q E st h => let ⟨⟨_, he⟩, _⟩ := st; wpAny_pyIter_enum he h
theorem begins_range {p : Addr} {j : Int} {t u v : Tok} (hs : Builtin.Range.small 0 j 1 = true) : Begins (.ref p) { cls := .type "range_iterator", data := .fields #[rawInt 0, rawInt (Builtin.Range.rangeSize 0 j 1), rawInt 1] } fun h => IsRange h p 0 j 1 t u v where
  iter := fun prog w A E s Q hr h => wpAny_pyIter_range hr hs h
  keeps := fun h h' x hk => hk p _ x
  free := rfl
section
variable {X : Cx}
def rRange1 : List V → Hp → VK → Prop := fun vs H Q => ∃ j, vs = [V.int j] ∧ ∀ p, H p = none → Q (.ref p) (upd H p (.rng 0 j))
theorem cr_range1 : CallR X (.type "range") rRange1 := by
  intro pins s σ H vs us Q I r h
  obtain ⟨j, rfl, q⟩ := h
  cases r with
  | cons r1 rr =>
    cases rr
    obtain ⟨t, rfl⟩ := r1
    refine call_range_1 ⟨.ref s.heap.objs.size, upd H s.heap.objs.size (.rng 0 j), I.laid (t' := s.toks + 1 + 1) (fun b o e => Heap.get?_push_of_some _ e) (Nat.le_refl _) ?_, rfl, q _ (I.hok.fresh (Nat.le_refl _))⟩
    exact ⟨s.toks, t, s.toks + 1, Heap.get?_push_size _ rfl⟩
def iEnumRt (ta : TA) : TI := fun σ H R => ta σ H fun vs H1 => ∃ p j, vs = [.ref p] ∧ H1 p = some (.rng 0 j) ∧ -100000000 ≤ j ∧ j ≤ 100000000 ∧ R (IteR j.toNat) H1
theorem pi_enumR {e : Expr} {ta : TA} {p pos tpos : Pos} {elts : List Expr} {kk : Nat} (hg : Gl X "enumerate") (hm : X.mg "enumerate" = none) (ha : PA X [e] ta) (hs : starEach [e] X.env = [(false, eval e X.env)] := by rfl) :
    PI X (.Tuple elts kk tpos) (.Call (.Name "enumerate" p) [e] [] pos) (iEnumRt ta) := by
  constructor
  intro pins s σ H R I h
  refine Call_ (ld_blt I hg hm PyProof.Rows.boot_enumerate (PyProof.Rows.callWith_type1 (thn (ha.run pos pins s σ H _ I h) fun us s1 ⟨vs, H1, I1, r1, q1⟩ => ?_) hs rfl))
  obtain ⟨a, j, rfl, hq, j0, j1, q⟩ := q1
  cases r1 with
  | cons r rr =>
    cases rr
    cases r
    obtain ⟨t, u, v, ho⟩ := I1.hok a _ hq
    have hsz : Builtin.Range.rangeSize 0 j 1 = ((j.toNat : Nat) : Int) := by
      rw [rangeSize_one]
      split <;> omega
    have sm : Builtin.Range.small 0 j 1 = true := small_one (by decide) (by decide) (by omega) (by omega)
    refine enum_begins1 (begins_range (t := t) (u := u) (v := v) sm) ho fun h' he hit hsz' hk => wpAny_pyIter_enum he ?_
    have I2 : Inv X pins σ H1 { s1 with heap := h' } := I1.kept (t' := s1.toks) hk
    rw [hsz] at hit
    refine ⟨s1.heap.objs.size + 1, [s1.heap.objs.size + 1, s1.heap.objs.size], _, _, H1, rfl, I2, turn_enumR j.toNat (s1.heap.objs.size + 1) s1.heap.objs.size (Nat.succ_ne_self _), ⟨⟨.none, he⟩, by simpa using hit⟩, fun b hb => ?_, q⟩
    have e' : b = s1.heap.objs.size + 1 ∨ b = s1.heap.objs.size := by simpa using hb
    have hle : s1.heap.objs.size ≤ b := by
      rcases e' with z | z
      · rw [z]; exact Nat.le_add_right _ _
      · rw [z]; exact Nat.le_refl _
    exact I1.fpOk hle (I1.hok.fresh hle)
end
section
variable {K : FR} {c : Ctx K} {F : Hp}
theorem wk_enumR {n : Nat} : Wk K (IteR n) (enumL 0 (rngL 0 n)) F := by
  refine ⟨fun _ => True, YPair (fun i => some (.int (i : Nat))) (fun i => some (.int (0 + (i : Nat)))), ⟨fun i H hi q => ?_, fun H q => ?_, fun i H x H' hi q y => ?_⟩, fun _ _ _ _ => trivial, fun i F2 H2 x H3 e1 e2 y hi => ?_⟩
  · rw [enumL_len, rngL_len] at hi; exact hi
  · rw [enumL_len, rngL_len]; rfl
  · obtain ⟨T, h1, h2, h3⟩ := y
    exact ⟨T, _, _, h1, h2, h3, rfl, rfl⟩
  · obtain ⟨T, u, v, rfl, hT, rfl, hu, hv⟩ := y
    cases hu
    cases hv
    rw [enumL_len, rngL_len] at hi
    have e3 := PExt.new (o := .tup [.int (i : Nat), .int (0 + (i : Nat))]) e2 hT
    refine ⟨_, _, e3, enumL_at (rngL_at hi), .tup (Rd.of upd_same) ?_⟩
    rw [Nat.zero_add]
    exact .cons (.int _) (.cons (.int _) .nil)
theorem si_enumR {t : TE} {m : ME c.W.G} (h : SoundE c t m) : SoundI c (iEnumRt (tCons (tCB rRange1 (tCons t tNil)) tNil)) (iEnumR m) := by
  intro a0 F0 H0 a g F H s r Rk rp post
  refine h _ _ _ _ _ _ _ _ _ _ rp ?_
  unfold iEnumR at post
  cases h : m r g with
  | no => rw [h] at post; exact post
  | er e g1 => rw [h] at post; exact post
  | ok u g1 =>
    rw [h] at post
    simp only [R.bind_ok] at post
    intro a1 F1 H1 x e1 t1 i1 n1
    split at post
    · rename_i j
      cases i1
      by_cases hj : inRng j = true
      · rw [if_pos hj] at post
        rw [inRng_iff] at hj
        refine ⟨j, rfl, fun p hp => ⟨p, j, rfl, upd_same, hj.1, hj.2, ?_⟩⟩
        have e2 := PExt.own (o := .rng 0 j) e1.fh hp
        exact post a1 F1 _ _ (e1.trans (Ext.of e1.fh e2)) (at_of t1 e2) wk_enumR
      · rw [if_neg hj] at post; exact post.elim
    · exact post.elim
end
end CW
/-! CwTell2: objects and a table. -/
namespace CW
open PySem PySem.Spec PyProof.Rows L2 LamX
section
variable {K : FR} {W : Wld K} {P : Addr} {q : Str}
theorem ext_lam {V : Wld K} {a : V.A} {F H : Hp} {ps more : Array Value} {c : Addr} (sub : ∀ b o, F b = some o → H b = some o) (fP : F P = none) (rP : V.reg a P) (hP : H P = some (.tbl ps)) (hc : H c = none) :
    Ext V a F H a (upd F c (CodeO c q)) (upd (upd H P (.tbl (ps ++ more))) c (CodeO c q)) := by
  have fc : F c = none := by
    cases z : F c with
    | none => rfl
    | some o => rw [sub _ _ z] at hc; cases hc
  refine ⟨fun b o z => ?_, fun b o z => ?_, fun b z f r => ?_, fun b z f r => ?_, fun b z => ?_, fun i b z => z⟩
  · rw [upd_ne (ne_of_none z fc)]; exact z
  · by_cases e : b = c
    · subst e; rw [upd_same] at z ⊢; exact z
    · rw [upd_ne e] at z ⊢
      have n : b ≠ P := fun y => by rw [y, fP] at z; cases z
      rw [upd_ne n]; exact sub _ _ z
  · have n : b ≠ c := fun e => by subst e; exact z hc
    have n2 : b ≠ P := fun e => r (by rw [e]; exact rP)
    rw [upd_ne n, upd_ne n, upd_ne n2]
    exact ⟨f, rfl, r⟩
  · have n : b ≠ c := fun e => by subst e; exact z hc
    rw [upd_ne n]; exact f
  · by_cases e : b = c
    · subst e; rw [upd_same]; simp
    · rw [upd_ne e]
      by_cases e2 : b = P
      · subst e2; rw [upd_same]; simp
      · rw [upd_ne e2]; exact z
theorem wt_lam {a : W.A} {g : W.G} {F H : Hp} {ps more : Array Value} {c : Addr} (h : (WT W P q).at_ a g F H) (sub : ∀ b o, F b = some o → H b = some o) (hP : H P = some (.tbl ps)) (hc : H c = none) (ht : TriplesOk (ps ++ more).toList)
    (ha : ∀ (p : Pos) (cv : Value), codeAmong p (ps ++ more).toList = some cv → codeAmong p ps.toList = some cv ∨ cv = .ref c) : (WT W P q).at_ a g (upd F c (CodeO c q)) (upd (upd H P (.tbl (ps ++ more))) c (CodeO c q)) := by
  obtain ⟨h1, ⟨h2, ps', h3, h4, h5⟩, h6⟩ := h
  rw [hP] at h3
  cases h3
  have nPc : P ≠ c := fun e => by rw [e, hc] at hP; cases hP
  have fc : F c = none := by
    cases z : F c with
    | none => rfl
    | some o => rw [sub _ _ z] at hc; cases hc
  refine ⟨lam_ext h1 sub h2 (fun b z e => h6 (by rw [← e]; exact z)) hP hc, ⟨by rw [upd_ne nPc]; exact h2, _, by rw [upd_ne nPc, upd_same], ht, fun p cv z => ?_⟩, h6⟩
  rcases ha p cv z with y | y
  · obtain ⟨c2, q1, q2⟩ := h5 p cv y
    exact ⟨c2, q1, by rw [upd_ne (ne_of_none q2 fc)]; exact q2⟩
  · exact ⟨c, y, upd_same⟩
theorem tabW_WM {mg : Str → Option Value} {cn : Str} {nm : List Str} : TabW (WM K mg cn nm (WT W P q)) P q where
  tab := fun {a g F H} h sub => (tabW_WT (W := W)).tab h.1 sub
  made := fun {a g F H H1} h sub l => by
    rcases l with rfl | ⟨ps, more, c, hP, hc, rfl, ht, ha⟩
    · exact ⟨F, Ext.refl sub, h⟩
    · obtain ⟨h1, h2, h3, h4, h5⟩ := h
      have fP : F P = none := h1.2.1.1
      refine ⟨upd F c (CodeO c q), ext_lam (V := WM K mg cn nm (WT W P q)) sub fP (.inl (.inr rfl)) hP hc, wt_lam h1 sub hP hc ht ha, h2, fun i o fv hi hg => ?_, h4, h5⟩
      obtain ⟨C, fs, ob⟩ := h3 i o fv hi hg
      refine ⟨C, fs, ob.keep (fun b o z => ?_) fun b hb => ?_⟩
      · rw [upd_ne (ne_of_none (sub b o z) hc)]; exact z
      · obtain ⟨z1, z2⟩ := ob.off b hb
        have n : b ≠ c := fun e => by subst e; exact z2 hc
        have n2 : b ≠ P := fun e => h5 o (List.mem_of_getElem? hi) b hb (.inr e)
        rw [upd_ne n, upd_ne n, upd_ne n2]
        exact ⟨z1, rfl⟩
end
theorem tokT {K : FR} {P : Addr} {q : Str} (a : (WT (WD K) P q).A) (k : Nat) (p : Addr) (h : (WT (WD K) P q).tok a k = some p) : k = 0 ∨ k = 1 := tokD (K := K) a k p h
theorem law_okMT {K : FR} {mg : Str → Option Value} {c : Str} {nm : List Str} {N : List Str} {P : Addr} {q : Str} {t : TS} {m : MS (GM DG)} (h : SoundS (cM K mg c nm (WT (WD K) P q) (fun _ _ _ _ => False)) t m) (tr : ∀ ns : List Int, ns.length ≤ 63 → ∃ g', runT 0 0 N.length m [] (⟨ns, none⟩, []) = .ok (.dat (.bool true)) g')
    {vs : List V} {H : Hp} {Q : VK} {E : XK} (sp : spLawT K P vs H Q E) : t { nx := fun _ H' => Q .non H', rt := Q } (L2.start N vs) H := by
  obtain ⟨a, ns, rfl, hS, hl, hP, k⟩ := sp
  obtain ⟨g', hg⟩ := tr ns hl
  have ff : ∀ b o, (if b = P then none else H b) = some o → H b = some o := fun b o z => by
    split at z
    · cases z
    · exact z
  have hS2 : SqL K (fun b => if b = P then none else H b) a (ns.map V.int) := by
    rcases hS with z | z
    · have n : a ≠ P := fun e => by
        subst e
        rcases z with z | ⟨o, z⟩ <;> (rw [hP] at z; cases z)
      refine .inl ?_
      rcases z with z | ⟨o, z⟩
      · exact .inl (by simp only [if_neg n]; exact z)
      · exact .inr ⟨o, by simp only [if_neg n]; exact z⟩
    · exact .inr z
  refine bodyT_ok (W := WM K mg c nm (WT (WD K) P q)) (mg := mg) (E := fun _ _ _ => False) (n0 := 0) (k := 0) (fun _ _ _ _ z => z) h ⟨rfl, ((a, none), []), (⟨ns, none⟩, []), _, a, [], [], rfl, rfl, ff, ⟨⟨⟨hS2, Nat.le_trans hl (by decide), True.intro⟩, ⟨if_pos rfl, #[], hP, True.intro, fun p cv z => ?_⟩, fun z => ?_⟩, rfl, fun i o fv hi _ => by simp at hi, fun i j oi oj _ hi _ => by simp at hi, fun o ho => by simp at ho⟩, .nil, ?_⟩
  · have z' : codeAmong p [] = some cv := z
    simp [codeAmong] at z'
  · have z' : (none : Option Addr) = some P := z
    cases z'
  · rw [hg]
    intro a' F' H' x e t i n
    have e2 := dp_bool i
    subst e2
    exact k H'
/-! two things by a tuple -/
section
variable {K : FR} {c : Ctx K}
theorem ss_tup2 {i j : Nat} {ta : TA} {ma : MA c.W.G} (ha : SoundA c ta ma) : SoundS c (tAsg (tTup ta) (gAny K 2 (gCons (gName i) (gCons (gName j) gNil)))) (sPar i j ma) := by
  intro a0 F0 H0 a g F H s r D rp post
  refine ha _ _ _ _ _ _ _ _ _ _ rp ?_
  unfold sPar at post
  cases hm : ma r g with
  | no => rw [hm] at post; exact post
  | er e g1 =>
    rw [hm] at post
    exact fun a' F' H' C d e' t i => post a' F' H' s C d (rp.step e' t) i
  | ok vs g1 =>
    rw [hm] at post
    simp only [R.out_ok] at post
    intro a1 F1 H1 xs e1 t1 i1
    have rp1 := rp.step e1 t1
    cases i1 with
    | nil => exact post.elim
    | cons iu n1 d1 t =>
      rename_i x xs u us
      cases t with
      | nil => cases u <;> exact post.elim
      | cons iv n2 d2 t2 =>
        rename_i y ys v vs
        cases t2 with
        | cons _ _ _ _ => cases u <;> cases v <;> exact post.elim
        | nil =>
          refine ⟨(by decide : (2 : Nat) ≤ sizeLine), fun p hp => .inl ⟨p, [x, y], rfl, .inl (Rd.of upd_same), rfl, x, [y], rfl, y, [], rfl, rfl, ?_⟩⟩
          have pe2 : PExt F1 H1 F1 (upd H1 p (.tup [x, y])) := PExt.own rp1.sub hp
          have key : (∀ l, u ≠ .lent l) → (∀ l, v ≠ .lent l) → Rep c.W a0 F0 H0 a1 g1 F1 H1 ((s.set i (some x)).set j (some y)) ((r.set i (some u)).set j (some v)) := fun nu nv => by
            have q1 := rp1.set (i := i) iu (NewTo.of rp e1 n1) nu
            have m2 : NewTo H0 (s.set i (some x)) (r.set i (some u)) y v := (NewTo.of rp e1 n2).put rp.len fun p l hu hx m hv hy => d1 p l hu hx 0 m (by simp [hv]) (by simp [hy])
            exact q1.set (i := j) iv m2 nv
          cases u with
          | lent l => exact post.elim
          | _ =>
            cases v with
            | lent l => exact post.elim
            | _ => exact post a1 F1 _ _ ((key (fun _ e => by cases e) (fun _ e => by cases e)).step (Ext.of rp1.sub pe2) (at_of t1 pe2)) e1.ff
end
section
variable {K : FR} {c : Ctx K}
theorem so_idxE {t : TE} {m : ME c.W.G} (i : Nat) (h : SoundE c t m) : SoundE c (tBM K "list" (rIndex K) (tVar i) (tCons t tNil)) (sIdxE i m) := by
  intro a0 F0 H0 a g F H s r' Q rp post
  refine so_var i a0 F0 H0 a g F H s r' _ rp ?_
  unfold sIdxE at post
  cases hv : (sV i : ME c.W.G) r' g with
  | no => rw [hv] at post; exact post
  | er e g1 => rw [hv] at post; exact post
  | ok u g1 =>
    rw [hv] at post
    simp only [R.bind_ok] at post
    intro a1 F1 H1 x e1 t1 i1 n1
    cases hl : u.lst? with
    | none =>
      rw [hl] at post
      exact (show False from post).elim
    | some l =>
      obtain ⟨p, xs, rfl, hp, hx⟩ := i1.lst e1.fh hl
      rw [hl] at post
      simp only [Option.isSome_some, if_true] at post
      refine ⟨.inl ⟨rfl, xs, .inl hp⟩, ?_⟩
      refine h _ _ _ _ _ _ _ _ _ _ (rp.step e1 t1) ?_
      cases hm : m r' g1 with
      | no => rw [hm] at post; exact post
      | er e g2 =>
        rw [hm] at post
        exact fun a' F' H' C d e' t i => post a' F' H' C d (e1.trans e') t i
      | ok y g2 =>
        rw [hm] at post
        simp only [R.bind_ok] at post
        intro a2 F2 H2 z e2 t2 i2 n2
        cases y with
        | dat d =>
          cases hf : fIdx d u with
          | none => simp only [hf] at post; exact post.elim
          | some k =>
            simp only [hf] at post
            have i1' := i1.step e2
            have q := post a2 F2 H2 (.int k) (e1.trans e2) t2 (.int k) trivial
            unfold fIdx at hf
            rw [hl] at hf
            simp only at hf
            split at hf
            · rename_i hs
              rw [Bool.and_eq_true] at hs
              obtain ⟨p', xs', ep, r2, hx2⟩ := i1'.lst e2.fh hl
              cases ep
              cases hj : l.findIdx? fun e => deq e d with
              | none => rw [hj] at hf; cases hf
              | some j =>
                rw [hj] at hf
                cases hf
                obtain ⟨h1, h2, h3⟩ := List.findIdx?_eq_some_iff_getElem.mp hj
                obtain ⟨w, hz, dz⟩ := dps_at hx2 (List.getElem?_eq_getElem h1)
                have fl : ∀ e ∈ l, flat e = true := fun e he => List.all_eq_true.mp hs.1 e he
                refine ⟨p, xs', z, j, w, rfl, rfl, .inl r2, flat_V i2 hs.2, flat_Vs hx2 hs.1, hz, ?_, fun m z' hm hz' => ?_, q⟩
                · rw [flat_eq i2 dz hs.2 (fl _ (List.getElem_mem _))]; exact h2
                · have hml : m < l.length := by omega
                  obtain ⟨z2, hz2, dz2⟩ := dps_at hx2 (List.getElem?_eq_getElem hml)
                  rw [hz2] at hz'
                  cases hz'
                  rw [flat_eq i2 dz2 hs.2 (fl _ (List.getElem_mem _))]
                  simpa using h3 m hm
            · cases hf
        | _ => exact post.elim
end
end CW
/-! CwAt: refusals that carry a number: their own beginning by the base class's, raised, told. -/
namespace CW
open PySem PySem.Spec PyProof.Rows L2 LamX
/-! ### B.__init__(self, ..), B an own class that begins as ValueError does -/
section
variable {X : Cx} {x : Str} {WE : Addr} {e : Expr} {es : List Expr} {ta : TA} {p1 p2 pos : Pos}
def initB (K : FR) (WE : Addr) : Bool := PySem.W.readsIn K WE (.type "type") && decide (PySem.W.specialIn K (.ref WE) "__getattribute__" = some (some (.builtin "type.__getattribute__"))) && (match PySem.W.findCls K (.ref WE) (.type "type") "__init__" with
  | some (.val (.builtin n)) => n == "ValueError.__init__"
  | _ => false)
theorem initB_ok {K : FR} {WE : Addr} (h : initB K WE = true) : PySem.W.readsIn K WE (.type "type") = true ∧ PySem.W.specialIn K (.ref WE) "__getattribute__" = some (some (.builtin "type.__getattribute__")) ∧ PySem.W.findCls K (.ref WE) (.type "type") "__init__" = some (.val (.builtin "ValueError.__init__")) := by
  unfold initB at h
  obtain ⟨h, h3⟩ := Bool.and_eq_true_iff.mp h
  obtain ⟨h1, h2⟩ := Bool.and_eq_true_iff.mp h
  refine ⟨h1, of_decide_eq_true h2, ?_⟩
  split at h3
  · rename_i n e
    rw [e, beq_iff_eq.mp h3]
  · cases h3
theorem pe_weinit {pl : Sem Bool} (hg : Gl X x) (hm : X.mg x = some (.ref WE)) (hb : initB X.K WE = true) (ha : PA X (e :: es) ta) (hdb : (x == ("__debug__" : Str)) = false := by decide)
    (hc : eval (.Call (.Attribute (.Name x p1) "__init__" p2) (e :: es) [] pos) X.env = (do
      let ov ← eval (.Name x p1) X.env
      standAt p2.atName
      let (f, first) ← holding [ov] (getMethod ov "__init__" pl)
      callWith pos f first (backTo pos (starEach (e :: es) X.env)) (backToKw pos (keywordEach [] X.env))) := by rfl)
    (he : starEach (e :: es) X.env = (false, eval e X.env) :: starEach es X.env := by rfl) (hpl : (backTo pos (starEach es X.env)).any (·.1) = false := by rfl) :
    PE X (.Call (.Attribute (.Name x p1) "__init__" p2) (e :: es) [] pos) (tVeI X.K ta) := by
  obtain ⟨h1, h2, h3⟩ := initB_ok hb
  refine ⟨fun pins s σ H Q I h => ?_⟩
  refine PySem.W.methodCall_KW (ld_glob I hg hm ?_ hdb) hc
  refine PySem.W.method_cls I.kIn h2 (PySem.W.cls_value (v := .builtin "ValueError.__init__") I.kIn h1 h3 (by decide +kernel) ?_)
  show wpAny _ _ (callWith pos (Value.builtin "ValueError.__init__") [] (backTo pos (starEach (e :: es) X.env)) []) _ _ _
  refine PyProof.Rows.callWith_method1 (thn (ha.run pos pins _ σ H _ (I.tok _) h) fun us s1 ⟨vs, H1, I1, r1, a, C, ws, ev, hl, T, ea, q⟩ => ?_) he hpl
  subst ev
  cases r1 with
  | @cons _ u0 _ ur ra rw' =>
    obtain rfl : u0 = Value.ref a := ra
    have hlen : ur.length ≤ sizeLine := by
      rw [← Paired.length rw', sizeLine_eq]
      omega
    exact oinit_ok T I1 ea hlen fun s' J => ⟨.non, H1, J, rfl, q⟩
end
/-! ### the class's own facts -/
def oexB (K : FR) (C : Addr) : Bool := (match K.lookup C with
  | some ⟨.type "type", _, .cls cd, sl⟩ => (match cd.mro, sl.toList with
    | .ref C' :: bm, [_, _, _, _, some (.builtin n), _] => C' == C && n == "ValueError.__new__" && !cd.hasDel && cd.hasDict && PySem.HandSPX.refsVE bm
    | _, _ => false)
  | _ => false) && (decide (PySem.W.findIn K (.ref C) "__setattr__" = some (some (.builtin "object.__setattr__"))) && decide (PySem.W.subIn K (.ref C) (.type "BaseException") = some true) &&
    decide (PySem.W.typeIn K (.ref C) = some (.type "type")) && PySem.W.keepIn K (.ref C))
theorem oexB_ok {K : FR} {C : Addr} (h : oexB K C = true) : OexC K C := by
  unfold oexB at h
  obtain ⟨h, h2⟩ := Bool.and_eq_true_iff.mp h
  simp only [Bool.and_eq_true, decide_eq_true_eq] at h2
  obtain ⟨⟨⟨h2, h3⟩, h4⟩, h5⟩ := h2
  refine ⟨?_, h2, h3, h4, h5⟩
  split at h
  · rename_i dd cd sl ho
    split at h
    · rename_i C' bm k0 k1 k2 k3 n k5 hm hs
      simp only [Bool.and_eq_true, beq_iff_eq, Bool.not_eq_true'] at h
      obtain ⟨⟨⟨⟨rfl, rfl⟩, hdel⟩, hd⟩, hr⟩ := h
      obtain ⟨nm, bs, mro, ns, qn, hdct, sn, sub, ab, col, del⟩ := cd
      dsimp only at hm hdel hd
      subst hm hdel hd
      have hsl : sl = #[k0, k1, k2, k3, some (.builtin "ValueError.__new__"), k5] := by
        obtain ⟨l⟩ := sl
        simp only at hs
        rw [hs]
      subst hsl
      exact ⟨nm, qn, ns, bs, bm, sn, sub, ab, col, dd, k0, k1, k2, k3, k5, ho, hr⟩
    · cases h
  · cases h
/-- C's own beginning: self.at = at -/
def spInit (C : Addr) (fl : Str) : Sp := fun vs H Q _ => ∃ (a : Addr) (k : Int), vs = [.ref a, .int k] ∧ H a = some (exo a C none) ∧ ∀ dx, H dx = none → dx ≠ a → Q .non (upd (upd H dx (exd dx [(fl, .int k)])) a (exo a C (some dx)))
theorem spInit_len {C : Addr} {fl : Str} {vs : List V} {H : Hp} {Q : VK} {E : XK} (h : spInit C fl vs H Q E) : vs.length = 2 := by
  obtain ⟨_, _, rfl, _⟩ := h
  rfl
/-- C begins so -/
def HasI (P : Program) (w : World) (K : FR) (mg : Str → Option Value) (base : Heap) (k : Nat) (C : Addr) (fl : Str) : Prop := OexC K C ∧ ∃ (fI : Addr) (fd : FuncData) (ps : List Str), PySem.W.findIn K (.ref C) "__init__" = some (some (.ref fI)) ∧ PySem.W.typeIn K (.ref fI) = some (.type "function") ∧
  FnOk P w K mg base (L2.CX P w) k fI fd ps (spInit C fl) ∧ L2.Binds K fd ps []
/-- its body -/
theorem init_ps {X : Cx} {C : Addr} {fl m : Str} {st1 st2 : Stmt} {vs : List V} {H : Hp} {Q : VK} {E : XK} (T : OexC X.K C) (hno : PySem.W.findIn X.K (.ref C) fl = some none)
    (h1 : PS X st1 (tDrop (tVeI X.K (tCons (tVar 0) (tCons (tC (.str m)) tNil))))) (h2 : PS X st2 (tOst X.K fl (tVar 0) (tVar 1))) (sp : spInit C fl vs H Q E) :
    ∃ t, PSs X [st1, st2] t ∧ t { nx := fun _ H' => Q .non H', rt := Q } (L2.start X.N vs) H := by
  obtain ⟨a, k, rfl, ha, q⟩ := sp
  refine ⟨_, pss_cons h1 (pss_one h2), ?_⟩
  have s0 : (L2.start X.N [V.ref a, .int k])[0]? = some (some (.ref a)) := rfl
  have s1 : (L2.start X.N [V.ref a, .int k])[1]? = some (some (.int k)) := rfl
  refine ⟨_, s0, a, C, [.str m], rfl, by simp, T, ha, ?_⟩
  exact ⟨_, s1, _, s0, a, C, rfl, T, hno, .inl ⟨ha, q⟩⟩
/-! ### raise C(k) -/
section
variable {K : FR} {c : Ctx K}
@[reducible] def tRaiseA (C : Addr) (fl : Str) (ta : TA) (W : WX) : TS := fun _ σ H => tMkO C (spInit C fl) [] ta σ H fun cls d H' => W cls d σ H'
theorem ss_raiseA {n fl : Str} {C : Addr} {t : TE} {m : ME c.W.G} (h : c.mg n = some (.ref C)) (hn : (if n = "BadText" then "row" else "at" : Str) = fl) (hm : SoundE c t m) : SoundS c (tRaiseA C fl (tCons t tNil) c.Wx) (sRaiseA n m) := by
  intro a0 F0 H0 a g F H s r D rp post
  refine hm _ _ _ _ _ _ _ _ _ _ rp ?_
  unfold sRaiseA at post
  cases e : m r g with
  | no => rw [e] at post; exact post
  | er er g1 =>
    rw [e] at post
    exact fun a' F' H' C d e' t i => post a' F' H' s C d (rp.step e' t) i
  | ok v g1 =>
    rw [e] at post
    simp only [R.out_ok] at post
    intro a1 F1 H1 x e1 t1 i1 _
    cases v with
    | dat d =>
      cases d with
      | int k =>
        cases i1
        refine ⟨by simp, fun p hp => ⟨p, k, rfl, upd_same, fun dx hx ne => ⟨rfl, dx, _, upd_same, by rw [upd_ne ne, upd_same], ?_, ?_⟩⟩⟩
        · rw [upd_ne ne] at hx; exact hx
        · have hx1 : H1 dx = none := by rw [upd_ne ne] at hx; exact hx
          have eq : upd (del (upd (upd (upd H1 p (exo p C none)) dx (exd dx [(fl, V.int k)])) p (exo p C (some dx))) p) dx (.xd [(fl, V.int k)]) = upd H1 dx (.xd [(fl, V.int k)]) := by
            funext b
            by_cases hb : b = dx
            · subst hb; rw [upd_same, upd_same]
            · rw [upd_ne hb, upd_ne hb]
              by_cases hp2 : b = p
              · subst hp2; rw [del_same, hp]
              · rw [del_ne hp2, upd_ne hp2, upd_ne hb, upd_ne hp2]
          rw [eq]
          have rp1 := rp.step e1 t1
          have pe := PExt.own (o := .xd [(fl, V.int k)]) rp1.sub hx1
          exact post a1 F1 _ s (.ref C) (some dx) (rp1.step (Ext.of rp1.sub pe) (at_of t1 pe)) ⟨⟨C, h, rfl⟩, dx, rfl, by rw [upd_same, hn]⟩
      | _ => exact post.elim
    | _ => exact post.elim
end
theorem ps_raiseA {X : Cx} {W : WX} {x fl : Str} {C : Addr} {k : Nat} {e : Expr} {ta : TE} {p pos p3 : Pos} (hc : X.calm = true) (tk : Takes X W) (I : HasI X.prog X.w X.K X.mg X.base k C fl) {k2 : Nat} (hr : Room k2 X.A) (hj : k + 1 ≤ k2) (hg : Gl X x) (hm : X.mg x = some (.ref C)) (ha : PE X e ta)
    (hdb : (x == ("__debug__" : Str)) = false := by decide) (hs : starEach [e] X.env = (false, eval e X.env) :: starEach [] X.env := by rfl) : PS X (.Raise (some (.Call (.Name x p) [e] [] p3)) none pos) (tRaiseA C fl (tCons ta tNil) W) := by
  obtain ⟨T, fI, fd, ps, h1, h2, F1, hb⟩ := I
  exact ps_raise hc tk (pmk_oex T h1 h2 F1 (hr.mono hj) hb .nil (passes_call tk fun _ _ _ _ z => z.elim) hg hm (pa_cons ha pa_nil hs) hdb hs (by rfl))
/-! ### the suite: isinstance(e, C), e.at -/
def rIsEA (K : FR) (D a dd : Addr) (fs : List (Str × V)) : List V → Hp → VK → Prop := fun xs H Q => H dd = some (.xd fs) ∧ rIsE K D a xs H Q
theorem call_isEA {X : Cx} {a D dd : Addr} {oe : Obj} {fs : List (Str × V)} {pn : List (Addr × Obj)} (C : ExcC X.K D) (hz : Zc (.ref D) (some dd) oe) (hf : ∃ vs, oe.data = .fields vs) : CallR (X.suite a ((a, oe) :: pn)) (.builtin "isinstance") (rIsEA X.K D a dd fs) := by
  intro pins s σ H xs us Q I r h
  obtain ⟨hdd, c, cv, b, rfl, hcv, e, q⟩ := h
  cases r with
  | cons rx rr =>
    cases rr with
    | cons rt rr =>
      cases rr
      cases rx
      have ec := hcv _ rt
      subst ec
      obtain ⟨hget, _⟩ := I.pin (a, oe) (List.mem_append.mpr (.inl List.mem_cons_self))
      obtain ⟨vs, hv⟩ := hf
      have hx : ObjOk X.prog X.w H s.heap dd (.xd fs) := I.hok dd _ hdd
      obtain ⟨mA, hns, hr⟩ := hx
      obtain ⟨od, ho, hl⟩ := lookIn_ns hns
      have J : PySem.W.InstAt s.heap a oe D (some od) := ⟨hget, hz.1, by unfold PySem.W.notCls; rw [hv] <;> rfl, by rw [hz.2]; exact ho⟩
      have hcl : (PySem.W.clsIn X.K D).isSome = true := by
        obtain ⟨cd, hc, _⟩ := PySem.W.any_some C.hd
        rw [hc]; rfl
      exact PySem.W.kia_one (PySem.W.kitx_exc hcl C.hg C.hk C.hs C.ha C.hn C.ht C.hm) I.kIn J e (fun z => nomatch z) fun tk => ⟨.bl b, H, I.kept (t' := tk) fun _ _ z => z, rfl, q⟩
/-- a world of one refusal with a number -/
@[reducible] def WXA (K : FR) (ea dd : Addr) (fl : Str) (k : Int) : Wld K where
  G := Unit
  A := Bool
  tok := fun _ n => if n = 0 then some ea else none
  reg := fun a b => a = true ∧ b = dd
  at_ := fun a _ F H => (a = true ∧ F dd = none ∧ H dd = some (.xd [(fl, .int k)])) ∨ (a = false ∧ F dd = some (.xd [(fl, .int k)]))
  keep := fun {a g F H F' H'} h ff hr => by
    rcases h with ⟨h1, h2, h3⟩ | ⟨h1, h2⟩
    · obtain ⟨r1, r2⟩ := hr dd ⟨h1, rfl⟩
      exact .inl ⟨h1, r1, r2.trans h3⟩
    · exact .inr ⟨h1, ff _ _ h2⟩
  off := fun {a g F H b} h r => by
    obtain ⟨r1, rfl⟩ := r
    rcases h with ⟨h1, h2, h3⟩ | ⟨h1, h2⟩
    · exact ⟨h2, by rw [h3]; simp⟩
    · rw [h1] at r1; cases r1
section
variable {K : FR} {mg : Str → Option Value} {Wx : WX}
theorem WXA.dict {ea dd : Addr} {fl : Str} {k : Int} {a : (WXA K ea dd fl k).A} {g : (WXA K ea dd fl k).G} {F H : Hp} (h : (WXA K ea dd fl k).at_ a g F H) (sub : ∀ b o, F b = some o → H b = some o) : H dd = some (.xd [(fl, .int k)]) := by
  rcases h with ⟨h1, h2, h3⟩ | ⟨h1, h2⟩
  · exact h3
  · exact sub _ _ h2
theorem so_isEA {ea dd D C : Addr} {fl : Str} {k : Int} {b : Bool} (i : Nat) (h : PySem.W.kitOne K (.ref D) (.ref C) = some b) : SoundE (⟨WXA K ea dd fl k, mg, Wx⟩ : Ctx K) (tCB (rIsEA K D ea dd [(fl, .int k)]) (tCons (tVar i) (tCons (tC (.ref C)) tNil))) (sIsE b i) := by
  intro a0 F0 H0 a g F H s r Q rp post
  unfold sIsE at post
  split at post
  · rename_i hi
    obtain ⟨x, h1, h2⟩ := rp.slot i _ hi
    obtain ⟨p, hp, rfl⟩ := h2
    have e : p = ea := by
      have hp' : (if (0 : Nat) = 0 then some ea else none) = some p := hp
      simpa using hp'.symm
    subst e
    refine ⟨_, h1, WXA.dict rp.at_ rp.sub, .ref C, .ref C, b, rfl, fun u ru => ru, h, ?_⟩
    exact post a F H (.bl b) (Ext.refl rp.sub) rp.at_ (.bl b) trivial
  · exact post.elim
theorem so_xf {ea dd C : Addr} {fl : Str} {k : Int} (i : Nat) : SoundE (⟨WXA K ea dd fl k, mg, Wx⟩ : Ctx K) (tXf ea (.ref C) (some dd) C fl (tVar i)) (sXf k i) := by
  intro a0 F0 H0 a g F H s r Q rp post
  unfold sXf at post
  split at post
  · rename_i hi
    obtain ⟨x, h1, h2⟩ := rp.slot i _ hi
    obtain ⟨p, hp, rfl⟩ := h2
    have e : p = ea := by
      have hp' : (if (0 : Nat) = 0 then some ea else none) = some p := hp
      simpa using hp'.symm
    subst e
    refine ⟨_, h1, rfl, rfl, dd, _, .int k, rfl, WXA.dict rp.at_ rp.sub, by simp [List.lookup], ?_⟩
    exact post a F H (.int k) (Ext.refl rp.sub) rp.at_ (.int k) trivial
  · exact post.elim
end
theorem suite_okA {K : FR} {mg : Str → Option Value} {ea dd : Addr} {fl : Str} {k : Int} {t : TS} {m : MS Unit} {n : Nat} {d : PyData} (h : SoundS (⟨WXA K ea dd fl k, mg, fun _ _ _ _ => False⟩ : Ctx K) t m) (hm : m (exEnv n) () = .rt (.dat d) ()) {σ : L2.St} {F H : Hp} {D : Ends} (hl : σ.length = n) (hn : 1 < n)
    (sub : ∀ b o, F b = some o → H b = some o) (hd : H dd = some (.xd [(fl, .int k)])) (q : ∀ F2 H2 x, PExt F H F2 H2 → Dp K F2 x d → D.rt x H2) : t (endsN 1 D) (σ.set 1 (some (.ref ea))) H := by
  obtain ⟨bl, hf⟩ : ∃ bl : Bool, (bl = true ∧ F dd = none) ∨ (bl = false ∧ F dd = some (.xd [(fl, .int k)])) := by
    cases z : F dd with
    | none => exact ⟨true, .inl ⟨rfl, rfl⟩⟩
    | some o =>
      have z2 := sub _ _ z
      rw [hd] at z2
      cases z2
      exact ⟨false, .inr ⟨rfl, rfl⟩⟩
  have hat : (WXA K ea dd fl k).at_ bl () F H := by
    rcases hf with ⟨h1, h2⟩ | ⟨h1, h2⟩
    · exact .inl ⟨h1, h2, hd⟩
    · exact .inr ⟨h1, h2⟩
  refine h bl F H bl () F H _ (exEnv n) _ ⟨Ext.refl sub, hat, by simp [exEnv, hl], fun i v hi => ?_, fun i l hi => ?_, fun i l p hi => ?_⟩ ?_
  · by_cases e : i = 1
    · subst e
      have e2 : v = .tok 0 := by
        unfold exEnv at hi
        rw [List.getElem?_set_self (by simpa using hn)] at hi
        simpa using hi.symm
      subst e2
      refine ⟨.ref ea, by rw [List.getElem?_set_self (by omega)], ?_⟩
      exact (⟨ea, by simp, rfl⟩ : ∃ p, (if (0 : Nat) = 0 then some ea else none) = some p ∧ V.ref ea = V.ref p)
    · unfold exEnv at hi
      rw [List.getElem?_set_ne (Ne.symm e), List.getElem?_replicate] at hi
      split at hi <;> simp at hi
  · unfold exEnv at hi
    by_cases e : i = 1
    · subst e
      rw [List.getElem?_set_self (by simpa using hn)] at hi
      simp at hi
    · rw [List.getElem?_set_ne (Ne.symm e), List.getElem?_replicate] at hi
      split at hi <;> simp at hi
  · unfold exEnv at hi
    by_cases e : i = 1
    · subst e
      rw [List.getElem?_set_self (by simpa using hn)] at hi
      simp at hi
    · rw [List.getElem?_set_ne (Ne.symm e), List.getElem?_replicate] at hi
      split at hi <;> simp at hi
  · rw [hm]
    intro a' F' H' x e t' i _
    refine q F' H' x ⟨e.ff, e.fh, fun b z f => ?_⟩ i
    by_cases hb : bl = true ∧ b = dd
    · obtain ⟨h1, rfl⟩ := hb
      refine ⟨e.rg b z f ⟨h1, rfl⟩, ?_⟩
      rw [hd]
      exact WXA.dict t' e.fh
    · exact ⟨(e.st b z f hb).1, (e.st b z f hb).2.1⟩
/-! ### what a refusal is told as -/
def refTA (K : FR) (mg : Str → Option Value) (ns na : List Str) (Q : VK) : XK := fun cls d H => ∃ (e : Er) (F : Hp), ((e.cls ∈ ns ∧ e.arg = none) ∨ (e.cls ∈ na ∧ e.arg ≠ none)) ∧ ErrAt mg e cls d H ∧ (∀ b o, F b = some o → H b = some o) ∧
  ∀ F2 H2 x, PExt F H F2 H2 → Dp K F2 x (refD e) → Q x H2
def TTrefA (K : FR) (mg : Str → Option Value) (ns na : List Str) : (XK → Hp → VK → Prop) → Hp → VK → Prop := fun tl H Q => tl (refTA K mg ns na Q) H Q
section
variable {K : FR} {c : Ctx K}
theorem so_toldA {P : Addr} {q : Str} {ns na : List Str} {t : XK → TE} {m : ME c.W.G} (T : TabW c.W P q) (h : ∀ E : XK, SoundE (⟨c.W, c.mg, fun C d _ H => E C d H⟩ : Ctx K) (t E) m) :
    SoundE c (tLam1 P q (TTrefA K c.mg ns na) t) (sToldA ns na m) := by
  intro a0 F0 H0 a g F H s r Q rp post
  refine ⟨T.tab rp.at_ rp.sub, fun H1 l => ?_⟩
  obtain ⟨F1, e1, t1⟩ := T.made rp.at_ rp.sub l
  refine h _ a0 F0 H0 a g F1 H1 s r Q (rp.step e1 t1) ?_
  unfold sToldA at post
  cases hm : m r g with
  | no => rw [hm] at post; exact post.elim
  | er e g1 =>
    rw [hm] at post
    simp only at post
    split at post
    · rename_i hc
      intro a2 F2 H2 C d e2 t2 i
      refine ⟨e, F2, hc, i, e2.fh, fun F3 H3 x e3 i3 => ?_⟩
      have e4 : Ext c.W a2 F2 H2 a2 F3 H3 := Ext.of e2.fh e3
      exact post a2 F3 H3 x (e1.trans (e2.trans e4)) (at_of t2 e3) i3 trivial
    · exact post.elim
  | ok v g1 =>
    rw [hm] at post
    intro a2 F2 H2 x e2 t2 i n
    cases v with
    | lent l => exact post.elim
    | dat d => exact post a2 F2 H2 x (e1.trans e2) t2 i (n.back e1.al)
    | own d => exact post a2 F2 H2 x (e1.trans e2) t2 i (n.back e1.al)
    | tok d => exact post a2 F2 H2 x (e1.trans e2) t2 i (n.back e1.al)
end
/-! ### the def that tells -/
theorem tells_okA {X : Cx} {Ng : List Str} {x a en BTn WEn : Str} {sg : Scope} {g BT WE : Addr} {cdg : Value} {q : Str} {ns na : List Str} {b0 b1 : Stmt} {su0 su1 : List Stmt} {p1 p2 p3 p4 p5 p6 p7 p8 : Pos} (hN : Ng.Nodup) (h1 : Ng[1]? = some en) (hl : sg.names.lookup en = some .local) (h0 : 2 ≤ Ng.length)
    (gB : sg.names.lookup BTn = some .globalImplicit) (gW : sg.names.lookup WEn = some .globalImplicit) (mB : X.mg BTn = some (.ref BT)) (mW : X.mg WEn = some (.ref WE)) (dB : (BTn == ("__debug__" : Str)) = false) (dW : (WEn == ("__debug__" : Str)) = false)
    (hc : ∀ n ∈ ns, ∀ p, X.mg n = some (.ref p) → PySem.W.exmOne X.K (.ref p) (.ref BT) = some false ∧ PySem.W.exmOne X.K (.ref p) (.ref WE) = some true ∧
      ∀ (s : Shared) (H : Hp) (ea : Addr) (oe : Obj) (pn : List (Addr × Obj)), Zc (.ref p) none oe → (∃ vs, oe.data = .fields vs) → Room 0 (X.A.deeper (envOfC x sg s.heap.objs.size g cdg)) →
        ∃ (t : TS) (m : MS Unit), PSs ((cxOf CX0 X.prog X.w X.K X.mg X.base Ng x sg g cdg X.A X.stack s H C8.E0).nox.suite ea ((ea, oe) :: pn)) (b1 :: su1) t ∧ SoundS (⟨WEx X.K ea, X.mg, fun _ _ _ _ => False⟩ : Ctx X.K) t m ∧ m (exEnv Ng.length) () = .rt (.dat (.tuple [.str "refused", .str n])) ())
    (hd : ∀ n ∈ na, n ≠ "BadText" → ∀ p, X.mg n = some (.ref p) → PySem.W.exmOne X.K (.ref p) (.ref BT) = some false ∧ PySem.W.exmOne X.K (.ref p) (.ref WE) = some true ∧
      ∀ (k : Int) (dd : Addr) (s : Shared) (H : Hp) (ea : Addr) (oe : Obj) (pn : List (Addr × Obj)), Zc (.ref p) (some dd) oe → (∃ vs, oe.data = .fields vs) → Room 0 (X.A.deeper (envOfC x sg s.heap.objs.size g cdg)) →
        ∃ (t : TS) (m : MS Unit), PSs ((cxOf CX0 X.prog X.w X.K X.mg X.base Ng x sg g cdg X.A X.stack s H C8.E0).nox.suite ea ((ea, oe) :: pn)) (b1 :: su1) t ∧ SoundS (⟨WXA X.K ea dd "at" k, X.mg, fun _ _ _ _ => False⟩ : Ctx X.K) t m ∧ m (exEnv Ng.length) () = .rt (.dat (.tuple [.str "refused", .str n, .int k])) ())
    (ht : ("BadText" : Str) ∈ na → BTn = "BadText" ∧ PySem.W.exmOne X.K (.ref BT) (.ref BT) = some true ∧
      ∀ (k : Int) (dd : Addr) (s : Shared) (H : Hp) (ea : Addr) (oe : Obj) (pn : List (Addr × Obj)), Zc (.ref BT) (some dd) oe → (∃ vs, oe.data = .fields vs) → Room 0 (X.A.deeper (envOfC x sg s.heap.objs.size g cdg)) →
        ∃ (t : TS) (m : MS Unit), PSs ((cxOf CX0 X.prog X.w X.K X.mg X.base Ng x sg g cdg X.A X.stack s H C8.E0).nox.suite ea ((ea, oe) :: pn)) (b0 :: su0) t ∧ SoundS (⟨WXA X.K ea dd "row" k, X.mg, fun _ _ _ _ => False⟩ : Ctx X.K) t m ∧ m (exEnv Ng.length) () = .rt (.dat (.tuple [.str "refused", .str "BadText", .int k])) ()) :
    Tells X Ng x sg g cdg [.Try [.Return (some (.Call (.Name a p1) [] [] p2)) p3] [.ExceptHandler (some (.Name BTn p4)) (some en) (b0 :: su0) p5, .ExceptHandler (some (.Name WEn p6)) (some en) (b1 :: su1) p7] [] [] p8] a q (TTrefA X.K X.mg ns na) := by
  intro f c' s H Q tl hr act hco h
  have gB' : Gl (cxOf CX0 X.prog X.w X.K X.mg X.base Ng x sg g cdg X.A X.stack s H C8.E0).nox BTn := gB
  have gW' : Gl (cxOf CX0 X.prog X.w X.K X.mg X.base Ng x sg g cdg X.A X.stack s H C8.E0).nox WEn := gW
  have lk : (cxOf CX0 X.prog X.w X.K X.mg X.base Ng x sg g cdg X.A X.stack s H C8.E0).nox.env.kindOf en = some .local := hl
  refine ⟨_, pss_one (ps_tryN (X := (cxOf CX0 X.prog X.w X.K X.mg X.base Ng x sg g cdg X.A X.stack s H C8.E0).nox)
      (tb := fun W D σ H => ∃ E : XK, (∀ cls d σ' H', σ'.length = Ng.length → E cls d H' → W cls d σ' H') ∧ σ[0]? = some (some (.ref f)) ∧ H c' = some (CodeO c' q) ∧ tl E H D.rt)
      rfl rfl hN L2.takes0 (fun W pn xe tk _ => ?_)
      (.cons (i := 1) (ts := fun ea cls d D σ H2 => ∀ (oe : Obj) (pn : List (Addr × Obj)), Zc cls d oe → (∃ vs, oe.data = .fields vs) → ∃ t : TS, PSs ((cxOf CX0 X.prog X.w X.K X.mg X.base Ng x sg g cdg X.A X.stack s H C8.E0).nox.suite ea ((ea, oe) :: pn)) (b0 :: su0) t ∧ t D σ H2)
          h1 lk ⟨gB', dB, .inl mB⟩ (fun a oe cls d pn hz hv => ⟨fun pins s' σ H' D I z => ?_⟩)
        (.cons (i := 1) (ts := fun ea cls d D σ H2 => ∀ (oe : Obj) (pn : List (Addr × Obj)), Zc cls d oe → (∃ vs, oe.data = .fields vs) → ∃ t : TS, PSs ((cxOf CX0 X.prog X.w X.K X.mg X.base Ng x sg g cdg X.A X.stack s H C8.E0).nox.suite ea ((ea, oe) :: pn)) (b1 :: su1) t ∧ t D σ H2)
          h1 lk ⟨gW', dW, .inl mW⟩ (fun a oe cls d pn hz hv => ⟨fun pins s' σ H' D I z => ?_⟩) .nil))), ?_⟩
  · constructor
    intro pins s' σ H' D I ⟨E, hW, e1, e2, e3⟩
    exact (pss_one (ps_ret (pos := p3) (act W pn xe E p1 p2 tk hW))).run pins s' σ H' D I ⟨e1, e2, e3⟩
  · obtain ⟨t, z1, z2⟩ := z oe pn hz hv
    exact z1.run pins s' σ H' D I z2
  · obtain ⟨t, z1, z2⟩ := z oe pn hz hv
    exact z1.run pins s' σ H' D I z2
  · refine ⟨refTA X.K X.mg ns na Q, fun cls d σ' H' hlen hh => ?_, by simp [L2.start], hco, h⟩
    obtain ⟨e, F, hn, ⟨⟨p, hp, rfl⟩, hda⟩, sub, q2⟩ := hh
    rcases hn with ⟨hn, ha⟩ | ⟨hn, ha⟩
    · rw [ha] at hda
      have hda : d = none := hda
      subst hda
      obtain ⟨c2, c3, c4⟩ := hc e.cls hn p hp
      refine ⟨false, c2, (fun z => by cases z), fun _ => ⟨true, c3, fun _ ea hea oe pn hz hv => ?_, fun z => by cases z⟩⟩
      obtain ⟨t, m, z1, hm1, hm2⟩ := c4 s H ea oe pn hz hv hr
      refine ⟨t, z1, suite_ok hm1 hm2 hlen (by omega) sub fun F2 H2 x e2 i2 => q2 F2 H2 x e2 ?_⟩
      unfold refD
      rw [ha]
      exact i2
    · obtain ⟨k, hk⟩ := Option.ne_none_iff_exists'.mp ha
      rw [hk] at hda
      obtain ⟨dd, rfl, hdd⟩ := hda
      by_cases cb : e.cls = "BadText"
      · rw [cb] at hn hp hdd
        obtain ⟨c1, c2, c4⟩ := ht hn
        have ep : p = BT := by
          rw [← c1, mB] at hp
          cases hp
          rfl
        subst ep
        rw [if_pos rfl] at hdd
        refine ⟨true, c2, fun _ ea hea oe pn hz hv => ?_, fun z => by cases z⟩
        obtain ⟨t, m, z1, hm1, hm2⟩ := c4 k dd s H ea oe pn hz hv hr
        refine ⟨t, z1, suite_okA hm1 hm2 hlen (by omega) sub hdd fun F2 H2 x e2 i2 => q2 F2 H2 x e2 ?_⟩
        unfold refD
        rw [hk, cb]
        exact i2
      · obtain ⟨c2, c3, c4⟩ := hd e.cls hn cb p hp
        rw [if_neg cb] at hdd
        refine ⟨false, c2, (fun z => by cases z), fun _ => ⟨true, c3, fun _ ea hea oe pn hz hv => ?_, fun z => by cases z⟩⟩
        obtain ⟨t, m, z1, hm1, hm2⟩ := c4 k dd s H ea oe pn hz hv hr
        refine ⟨t, z1, suite_okA hm1 hm2 hlen (by omega) sub hdd fun F2 H2 x e2 i2 => q2 F2 H2 x e2 ?_⟩
        unfold refD
        rw [hk]
        exact i2
/-- x is a def of the module that tells what its one argument told, or the refusal's name -/
def HasTA (K : FR) (mg : Str → Option Value) (x : Str) (ns na : List Str) : Prop := ∃ (g : Addr) (fd : FuncData) (ag : Arguments) (bg : List Stmt) (sg : Scope) (Ng : List Str) (a : Str), FunD K x x ag bg sg [] [] g fd ∧ mg x = some (.ref g) ∧ PySem.W.keepIn K (.ref g) = true ∧
  L2.Binds K fd [a] [] ∧ FnScope Ng [a] sg ∧ Ng[0]? = some a ∧ Vis sg a ∧ (a == ("__debug__" : Str)) = false ∧ (a == ("__classdict__" : Str)) = false ∧
  ∀ (X : Cx) (cdg : Value) (q : Str), X.K = K → X.mg = mg → Tells X Ng x sg g cdg bg a q (TTrefA K mg ns na)
theorem pe_toldHA {X : Cx} {x : Str} {ns na : List Str} {c P : Addr} {k : Nat} {ar : Arguments} {body : Expr} {sc : Scope} {t : XK → TE} {p lpos pos : Pos} (h : HasTA X.K X.mg x ns na) (hg : Gl X x) (B : TabB X.base X.mg c P) (hc : X.env.code = .ref c) (hr : Room (k + 2) X.A)
    (L : LamS1 X.N X.env.scope sc) (hB : LamB ar body sc) (hk0 : ar.kw_defaults = []) (hd0 : ar.defaults = [] ∨ ∃ j p2, ar.defaults = [.Constant (.int 0) j p2])
    (run : ∀ (A : Around) (out : List PySem.Env) (s : Shared) (H : Hp) (E : XK) (f c' : Addr), Room k (A.deeper (lamEnv X sc s.heap.objs.size f c')) → PE (lamCx X A out s H E sc f c') body (t E))
    (hdb : (x == ("__debug__" : Str)) = false := by decide) : PE X (.Call (.Name x p) [.Lambda ar body sc lpos] [] pos) (tLam1 P (X.env.qual ++ "<lambda>") (TTrefA X.K X.mg ns na) t) := by
  obtain ⟨g, fd, ag, bg, sg, Ng, a, F, hm, hk, hb, S, h0, hv, d1, d2, T⟩ := h
  exact pe_told hg hm hk F hb S h0 hv (fun cdg => T X cdg _ rfl rfl) B hc hr L hB hk0 hd0 run hdb d1 d2
/-! ### x in range(lo, hi) -/
section
variable {K : FR} {c : Ctx K}
theorem so_inR {ta : TE} {ma : ME c.W.G} {lo hi : Int} (ha : SoundE c ta ma) : SoundE c (tOp (fun x y H Q => ∃ i a lo hi, x = V.int i ∧ y = V.ref a ∧ H a = some (.rng lo hi) ∧ Q (.bl (decide (lo ≤ i ∧ i < hi))) H) ta
    (tCB (fun vs H Q => ∃ i j, vs = [V.int i, V.int j] ∧ ∀ p, H p = none → Q (.ref p) (upd H p (.rng i j))) (tCons (tC (.int lo)) (tCons (tC (.int hi)) tNil)))) (sInR lo hi ma) := by
  intro a0 F0 H0 a g F H s r Q rp post
  refine ha _ _ _ _ _ _ _ _ _ _ rp ?_
  unfold sInR at post
  cases h : ma r g with
  | no => rw [h] at post; exact post
  | er e g1 => rw [h] at post; exact post
  | ok v g1 =>
    rw [h] at post
    simp only [R.bind_ok] at post
    intro a1 F1 H1 x e1 t1 i1 _
    cases v with
    | dat d =>
      cases d with
      | int k =>
        cases i1
        refine ⟨lo, hi, rfl, fun p hp => ⟨k, p, lo, hi, rfl, rfl, upd_same, ?_⟩⟩
        have pe := PExt.own (o := .rng lo hi) e1.fh hp
        exact post a1 F1 _ _ (e1.trans (Ext.of e1.fh pe)) (at_of t1 pe) (.bl _) trivial
      | _ => exact post.elim
    | _ => exact post.elim
end
end CW
/-! CwSem3: a try that lets nothing out; texts. -/
namespace CW
open PySem
/-- try: body, where the body refuses nothing -/
@[simp] def sTry0 {G : Type} (m : MS G) : MS G := fun r g => match m r g with
  | .er _ _ _ => .no
  | o => o
def strsOf : List PyData → Option (List Str)
  | [] => some []
  | .str z :: ds => (strsOf ds).map (z :: ·)
  | _ => none
/-- a text's method of one argument -/
@[simp] def sM1 {G : Type} (f : Str → Vl → Option Vl) (a b : ME G) : ME G := fun r g => (a r g).bind fun x g1 => match x with
  | .dat (.str z) => (b r g1).bind fun y g2 => lift (f z y) g2
  | _ => .no
@[simp] def fJoin (z : Str) (v : Vl) : Option Vl := match v.seq? with
  | some l => (match strsOf l with
    | some ys => if (ys.map (·.length)).sum + ys.length * z.length ≤ 100000 then some (.dat (.str (Txt.join z ys))) else none
    | none => none)
  | none => none
@[simp] def fSplit (z : Str) : Vl → Option Vl
  | .dat (.str b) => if b.length ≠ 0 ∧ z.length ≤ 100000 then some (.own ((Txt.split z b).map PyData.str)) else none
  | _ => none
@[simp] noncomputable def bStr : List Vl → Option Vl
  | [.dat (.int i)] => if small i = true then some (.dat (.str (toString i))) else none
  | _ => none
@[simp] def bIntS : List Vl → Option Vl
  | [.dat (.str z)] => if z.length ≤ 640 then (PySem.intText? z).map fun n => .dat (.int n) else none
  | _ => none
/-- x += (..), tuples -/
@[simp] def oAddT : Vl → Vl → Option Vl
  | .dat (.tuple a), .dat (.tuple b) => if a.length + b.length ≤ 100000 then some (.dat (.tuple (a ++ b))) else none
  | _, _ => none
/-- x.extend(e), x a slot's own list, e a new one -/
@[simp] def sExt {G : Type} (i : Nat) (e : ME G) : MS G := fun r g => match r[i]? with
  | some (some (.own l)) => (e r g).out r fun v g1 => match v with
    | .own m => if l.length + m.length ≤ 100000 then .nx (r.set i (some (.own (l ++ m)))) g1 else .no
    | _ => .no
  | _ => .no
/-- all slots' lists seen as data -/
@[simp] def peekR : Env → Env
  | [] => []
  | some (.dat d) :: r => some (.dat d) :: peekR r
  | some (.own l) :: r => some (.dat (.list l)) :: peekR r
  | _ :: r => none :: peekR r
/-- an expression that only looks, and tells flat things -/
@[simp] def sPeek {G : Type} (m : ME Unit) : ME G := fun r g => match m (peekR r) () with
  | .ok (.dat d) _ => if flt d = true then .ok (.dat d) g else .no
  | .ok (.own l) _ => if flts l = true then .ok (.own l) g else .no
  | .er e _ => .er e g
  | _ => .no
def isTup : PyData → Bool
  | .tuple _ => true
  | _ => false
/-- tuples that are alike, the first of them empty -/
def srtOkE (l : List PyData) : Bool := (match l with
  | .tuple [] :: _ => true
  | _ => false) && ((l.all fun d => l.all fun e => PySem.W.alike d e) && l.all isTup && (l.all fun d => shp 12 d) && decide (l.length ≤ 100000))
@[simp] def oSrtE (v : Vl) : Option Vl := match v.lst? with
  | some l => if srtOk l = true ∨ srtOkE l = true then some (.own (srtD l)) else none
  | none => none
@[simp] def bSrtE : List Vl → Option Vl
  | [v] => oSrtE v
  | _ => none
end CW
/-! CwTry: a try whose body refuses nothing; texts: join, split, str, int; tuple += tuple. -/
namespace CW
open PySem PySem.Spec PyProof.Rows L2
/-! ### try -/
section
variable {X : Cx} {body : List Stmt} {h0 : ExceptHandler} {hds : List ExceptHandler} {pos : Pos} {tb : TS}
theorem ps_try0 (hb : ∀ (pn : List (Addr × Obj)) (xe : Value → Shared → Prop), PSs (X.tr pn xe) body tb) : PS X (.Try body (h0 :: hds) [] [] pos) tb := by
  constructor
  intro pins s σ H D I h
  have ok := I.ok
  refine wpAny_Try_except ?_
  refine wpAny_mono ((hb (X.pn ++ pins) (fun e s₁ => wpAny (model X.prog X.w) X.A (noteFrame e X.env) (fun _ s₂ => wpAny (model X.prog X.w) X.A (setFlight e none) (fun _ s₃ =>
    wpAny (model X.prog X.w) X.A (handleBy e X.env (h0 :: hds)) (SP X pins D) X.xe s₃) X.xe s₂) X.xe s₁)).run [] s σ H D (I.toTry _) h) (fun f s1 hsp => ?_) (fun e s1 he => he)
  cases f with
  | next =>
    obtain ⟨σ', H', J', q⟩ := hsp
    exact wpAny_execs_nil ⟨σ', H', J'.ofTry ok, q⟩
  | brk =>
    obtain ⟨σ', H', J', q⟩ := hsp
    exact ⟨σ', H', J'.ofTry ok, q⟩
  | cont =>
    obtain ⟨σ', H', J', q⟩ := hsp
    exact ⟨σ', H', J'.ofTry ok, q⟩
  | ret u =>
    obtain ⟨v, σ', H', J', r, q⟩ := hsp
    exact ⟨v, σ', H', J'.ofTry ok, r, q⟩
end
section
variable {K : FR} {c : Ctx K}
theorem ss_try0 {t : TS} {m : MS c.W.G} (h : SoundS c.calm t m) : SoundS c t (sTry0 m) := by
  intro a0 F0 H0 a g F H s r D rp post
  refine h a0 F0 H0 a g F H s r D rp ?_
  unfold sTry0 at post
  cases e : m r g with
  | er e2 r2 g2 => rw [e] at post; exact post.elim
  | no => rw [e] at post; exact post.elim
  | nx r2 g2 => rw [e] at post; exact post
  | rt v2 g2 => rw [e] at post; exact post
  | bk r2 g2 => rw [e] at post; exact post
  | ct r2 g2 => rw [e] at post; exact post
/-! ### texts -/
def SoundM1 (c : Ctx K) (r : V → List V → Hp → VK → Prop) (f : Str → Vl → Option Vl) : Prop := ∀ (a : c.W.A) (g : c.W.G) (F H : Hp) (z : Str) (y : V) (v w : Vl) (Q : VK), (∀ b o, F b = some o → H b = some o) → c.W.at_ a g F H → IsV c.W a F H y v → f z v = some w →
  (∀ F' H' u, PExt F H F' H' → IsV c.W a F' H' u w → IsN H u w → Q u H') → r (.str z) [y] H Q
theorem so_m1 {r2 : V → List V → Hp → VK → Prop} {f : Str → Vl → Option Vl} {ta tb : TE} {ma mb : ME c.W.G} (hr : SoundM1 c r2 f) (ha : SoundE c ta ma) (hb : SoundE c tb mb) : SoundE c (tM1 r2 ta tb) (sM1 f ma mb) := by
  intro a0 F0 H0 a g F H s r Q rp post
  refine ha _ _ _ _ _ _ _ _ _ _ rp ?_
  unfold sM1 at post
  cases h : ma r g with
  | no => rw [h] at post; exact post
  | er e g1 => rw [h] at post; exact post
  | ok u g1 =>
    rw [h] at post
    simp only [R.bind_ok] at post
    intro a1 F1 H1 x e1 t1 i1 n1
    have rp1 := rp.step e1 t1
    split at post
    · rename_i z
      have ex : x = .str z := dp_str i1
      subst ex
      refine ⟨⟨z, rfl⟩, hb _ _ _ _ _ _ _ _ _ _ rp1 ?_⟩
      cases h2 : mb r g1 with
      | no => rw [h2] at post; exact post
      | er e g2 => rw [h2] at post; exact PostE.from (x := .er e g2) e1 post
      | ok v g2 =>
        rw [h2] at post
        simp only [R.bind_ok] at post
        intro a2 F2 H2 y e2 t2 i2 n2
        cases hf : f z v with
        | none => rw [hf] at post; exact post.elim
        | some w =>
          rw [hf] at post
          refine hr a2 g2 F2 H2 z y v w Q e2.fh t2 i2 hf fun F3 H3 z e3 i3 n3 => ?_
          exact post a2 F3 H3 z ((e1.trans e2).trans (Ext.of e2.fh e3)) (at_of t2 e3) i3 (n3.back (e1.trans e2).al)
    · exact post.elim
theorem strs_dps {F : Hp} : ∀ {l : List PyData} {ys : List Str} {xs : List V}, strsOf l = some ys → DpAll K F xs l → xs = ys.map V.str
  | [], ys, xs, h, hd => by cases h; cases hd; rfl
  | .str z :: ds, ys, xs, h, hd => by
    unfold strsOf at h
    cases h1 : strsOf ds with
    | none => rw [h1] at h; cases h
    | some zs =>
      rw [h1] at h
      cases h
      cases hd with
      | cons h2 h3 => rw [dp_str h2, strs_dps h1 h3]; rfl
  | .none :: _, _, _, h, _ => by simp [strsOf] at h
  | .bool _ :: _, _, _, h, _ => by simp [strsOf] at h
  | .int _ :: _, _, _, h, _ => by simp [strsOf] at h
  | .list _ :: _, _, _, h, _ => by simp [strsOf] at h
  | .tuple _ :: _, _, _, h, _ => by simp [strsOf] at h
  | .dict _ :: _, _, _, h, _ => by simp [strsOf] at h
theorem dps_strs {F : Hp} : ∀ (ys : List Str), DpAll K F (ys.map V.str) (ys.map PyData.str)
  | [] => .nil
  | y :: ys => .cons (.str y) (dps_strs ys)
theorem sm_join : SoundM1 c (fun x xs H Q => ∃ a p, ∃ ys : List Str, x = .str a ∧ xs = [.ref p] ∧ (SqL K H p (ys.map V.str) ∨ SqT K H p (ys.map V.str)) ∧ (ys.map (·.length)).sum + ys.length * a.length ≤ 16777216 ∧ Q (.str (Txt.join a ys)) H) fJoin := by
  intro a g F H z y v w Q sub t i h k
  unfold fJoin at h
  split at h
  · rename_i l hl
    split at h
    · rename_i ys hy
      split at h
      · rename_i hle
        cases h
        obtain ⟨p, xs, rfl, hx, hk⟩ := i.seq sub hl
        have e := strs_dps hy hx
        subst e
        refine ⟨z, p, ys, rfl, rfl, ?_, by omega, k F H _ (PExt.refl sub) (.str _) trivial⟩
        rcases hk with ⟨_, hk⟩ | ⟨_, hk, hf⟩
        · exact .inl (.inl hk)
        · exact .inr (.inl hk)
      · cases h
    · cases h
  · cases h
theorem sm_split : SoundM1 c (fun x xs H Q => ∃ a b, x = .str a ∧ xs = [.str b] ∧ (b.length == 0) = false ∧ a.length + 2 ≤ sizeLine ∧ rNewStrs (Txt.split a b) H Q) fSplit := by
  intro a g F H z y v w Q sub t i h k
  unfold fSplit at h
  split at h
  · rename_i b
    split at h
    · rename_i hb
      cases h
      have e : y = .str b := dp_str i
      subst e
      refine ⟨z, b, rfl, rfl, by simpa using hb.1, Nat.le_trans (Nat.add_le_add_right hb.2 2) (by decide), fun p hp => own_new sub t (dps_strs _) hp k⟩
    · cases h
  · cases h
theorem small_log {i : Int} (h : small i = true) : i.natAbs.log2 < 1920 := Nat.lt_of_lt_of_le (log_of h) (by decide)
theorem sb_str : SoundB c (fun xs H Q => ∃ i : Int, xs = [.int i] ∧ i.natAbs.log2 < 1920 ∧ Q (.str (toString i)) H) bStr := by
  intro a g F H Hs xs vs w Q sub t i h k
  unfold bStr at h
  split at h
  · rename_i j
    split at h
    · rename_i hs
      cases h
      cases i with
      | cons iv n d t2 =>
        cases t2
        have e := dp_int iv
        subst e
        exact ⟨j, rfl, small_log hs, k F H _ (PExt.refl sub) (.str _) trivial⟩
    · cases h
  · cases h
theorem sb_intS : SoundB c (fun xs H Q => ∃ (a : Str) (n : Int), xs = [.str a] ∧ PySem.intText? a = some n ∧ a.length ≤ 640 ∧ Q (.int n) H) bIntS := by
  intro a g F H Hs xs vs w Q sub t i h k
  unfold bIntS at h
  split at h
  · rename_i z
    split at h
    · rename_i hz
      cases hn : PySem.intText? z with
      | none => rw [hn] at h; cases h
      | some n =>
        rw [hn] at h
        cases h
        cases i with
        | cons iv n2 d t2 =>
          cases t2
          have e := dp_str iv
          subst e
          exact ⟨z, n, rfl, hn, hz, k F H _ (PExt.refl sub) (.int _) trivial⟩
    · cases h
  · cases h
end
/-! ### tuple += tuple -/
section
variable {prog : Program} {w : World} {A : Around} {E : Value → Shared → Prop} {s : Shared}
theorem iconcat_meets {T id : String} {B : Builtin} {a b : Value} {S : PySem.Spec} {Q : Value → Shared → Prop} (ha : s.TypeIs a T) (hb : s.TypeIs b T) (hno : typeLookup (.type T) (dunderI "add") = pure none)
    (hfill : fillsNumberSlot (.type T) "add" = pure false) (hseq : seqSlot? (.type T) "__add__" = pure (some (.builtin id))) (slot : Slot T "__add__" id)
    (entry : entryFor table id = some B) (args : argsOk id ⟨[a, b], []⟩) (g : Meets (B ⟨[a, b], []⟩) S) (h : S A (wants Q E) s) : wpAny (model prog w) A (inplaceOp .Add a b) Q E s :=
  wpAny_inplaceOp_concat ha hb hno hfill hseq (call_meets slot ha entry args g h)
theorem noI_tuple : typeLookup (.type "tuple") (dunderI "add") = pure none := by rw [typeLookup_type, builtinLookup_eq_fast]; kernel_rfl
theorem icat_tup0 {t b : Addr} {ws : List Value} {Q : Value → Shared → Prop} (ht : IsTup s.heap t ([] : List Value).toArray) (hb : IsTup s.heap b ws.toArray) (h : Q (.ref b) s) : wpAny (model prog w) A (inplaceOp .Add (.ref t) (.ref b)) Q E s := by
  obtain ⟨⟨cls, dd, data, sl⟩, ho, hc, n, hd⟩ := id ht
  obtain ⟨⟨cls2, dd2, data2, sl2⟩, ho2, hc2, n2, hd2⟩ := id hb
  simp only at hc hd hc2 hd2
  subst hc hd hc2 hd2
  exact iconcat_meets ⟨_, ho, rfl⟩ ⟨_, ho2, rfl⟩ noI_tuple noFill_tuple_add seq_tuple_add PySem.F.slot_tuple_add PySem.F.entry_tuple_add (PySem.F.args_tuple_add_2 _ _)
    (tuple_addW0 t b ([] : List Value).toArray ws.toArray n n2 dd dd2 sl sl2 (by simp)) ⟨ho, ho2, h⟩
theorem icat_tup {t b : Addr} {vs ws : List Value} {Q : Value → Shared → Prop} (ht : IsTup s.heap t vs.toArray) (hb : IsTup s.heap b ws.toArray) (hv : vs ≠ [])
    (h1 : ws = [] → Q (.ref t) s) (h2 : ws ≠ [] → Q (.ref s.heap.objs.size) { s with heap := s.heap.push { cls := .type "tuple", data := .seq (vs ++ ws).toArray } })
    (hsz : vs.length + ws.length ≤ sizeLine) : wpAny (model prog w) A (inplaceOp .Add (.ref t) (.ref b)) Q E s := by
  obtain ⟨⟨cls, dd, data, sl⟩, ho, hc, n, hd⟩ := id ht
  obtain ⟨⟨cls2, dd2, data2, sl2⟩, ho2, hc2, n2, hd2⟩ := id hb
  simp only at hc hd hc2 hd2
  subst hc hd hc2 hd2
  have e : vs.toArray ++ ws.toArray = (vs ++ ws).toArray := by simp
  by_cases hw : ws = []
  · exact iconcat_meets ⟨_, ho, rfl⟩ ⟨_, ho2, rfl⟩ noI_tuple noFill_tuple_add seq_tuple_add PySem.F.slot_tuple_add PySem.F.entry_tuple_add (PySem.F.args_tuple_add_2 _ _)
      (tuple_addW1 t b vs.toArray ws.toArray n n2 dd dd2 sl sl2 (by simpa using hv) (by simp [hw])) ⟨ho, ho2, h1 hw⟩
  · refine iconcat_meets ⟨_, ho, rfl⟩ ⟨_, ho2, rfl⟩ noI_tuple noFill_tuple_add seq_tuple_add PySem.F.slot_tuple_add PySem.F.entry_tuple_add (PySem.F.args_tuple_add_2 _ _)
      (tuple_addW2 t b vs.toArray ws.toArray n n2 dd dd2 sl sl2 (by simpa using hv) (by simpa using hw) (by rw [List.size_toArray, List.size_toArray]; exact hsz)) ⟨ho, ho2, ?_⟩
    rw [e]
    exact h2 hw
end
theorem ip_addT {X : Cx} : PIp X .Add (rCatA X.K) := by
  intro pins s σ H x y v u Q I rx ry h
  obtain ⟨a, b, xs, ys, rfl, rfl, ha, hb, hz, q0, q1, q2⟩ := h
  cases rx
  cases ry
  obtain ⟨its, r1, p1, _⟩ := I.tuple ha
  obtain ⟨its2, r2, p2, _⟩ := I.tuple hb
  by_cases hx : xs = []
  · subst hx
    cases r1
    exact icat_tup0 p1 p2 ⟨.ref b, H, I, rfl, q0 rfl⟩
  · refine icat_tup p1 p2 (fun z => hx (r1.nil_iff.mp z)) (fun z => ⟨.ref a, H, I, rfl, q1 hx (r2.nil_iff.mp z)⟩) (fun z => ?_) (by rw [← r1.length, ← r2.length]; exact hz)
    refine ⟨.ref s.heap.objs.size, _, I.laid (t' := s.toks) (o := .tup (xs ++ ys)) (fun b ob q => Heap.get?_push_of_some _ q) (Nat.le_refl _) ?_, rfl, q2 hx (fun w => z (r2.nil_iff.mpr w)) _ (I.hok.fresh (Nat.le_refl _))⟩
    exact ⟨by rw [List.length_append]; exact hz, _, r1.append r2, IsTup.new _ _⟩
section
variable {K : FR} {c : Ctx K}
theorem sr_addT : SoundR c (rCatA K) oAddT := by
  intro a g F H x y u v w Q sub t iu iv h k
  unfold oAddT at h
  split at h
  · rename_i l m
    split at h
    · rename_i hz
      cases h
      have k' := fun F' H' z (pe : PExt F H F' H') (i : IsV c.W a F' H' z (.dat (.tuple (l ++ m)))) => k F' H' z pe i trivial
      cases iu with
      | tup h1 h2 =>
        cases iv with
        | tup h3 h4 =>
          have e1 := dps_len h2
          have e2 := dps_len h4
          refine ⟨_, _, _, _, rfl, rfl, .inl (rd_mono sub h1), .inl (rd_mono sub h3), line_of (by rw [e1, e2]; exact hz), fun e => ?_, fun e e' => ?_, fun e e' p hp => ?_⟩
          · subst e
            cases h2
            exact k' F H _ (PExt.refl sub) (Dp.tup h3 h4)
          · subst e'
            cases h4
            refine k' F H _ (PExt.refl sub) ?_
            rw [List.append_nil]
            exact Dp.tup h1 h2
          · exact tup_new sub (dps_app h2 h4) hp k
    · cases h
  · cases h
end
/-! ### x.extend(..) -/
section
variable {K : FR} {c : Ctx K}
theorem ss_ext {i : Nat} {te : TE} {me : ME c.W.G} (he : SoundE c te me) : SoundS c (tDrop (tBM K "list" rExtend (tVar i) (tCons te tNil))) (sExt i me) := by
  intro a0 F0 H0 a g F H s r D rp post
  unfold sExt at post
  split at post
  · rename_i l h
    obtain ⟨x, h1, h2⟩ := rp.slot i _ h
    obtain ⟨p, xs, rfl, hq, hd0, fq, rq⟩ := id h2
    refine ⟨.ref p, h1, .inl ⟨rfl, xs, SqL.of hq⟩, ?_⟩
    refine he _ _ _ _ _ _ _ _ _ _ rp (so_out (o := .no) rp post fun v g' a' F' H' y hx e rp' iv n po => ?_)
    cases v with
    | own m =>
      simp only at po
      by_cases hl : l.length + m.length ≤ 100000
      · rw [if_pos hl] at po
        obtain ⟨b, zs, rfl, hb, hdb, fb, rb⟩ := iv
        obtain ⟨x2, h3, h4⟩ := rp'.slot i _ h
        rw [h1] at h3
        cases h3
        obtain ⟨p2, xs2, eq, hq2, hd2, fq2, rq2⟩ := h4
        cases eq
        refine ⟨p, b, xs2, zs, rfl, rfl, hq2, hb, line_of (by rw [dps_len hd2, dps_len hdb]; exact hl), ?_⟩
        exact po a' _ _ s (rp'.chg h h1 (dps_app hd2 hdb)) fun b o z => z
      · rw [if_neg hl] at po; exact po.elim
    | dat d => exact po.elim
    | tok d => exact po.elim
    | lent d => exact po.elim
  · exact post.elim
end
end CW
/-! CwPeek: a slot's own list, looked at while an expression runs that tells flat things. -/
namespace CW
open PySem L2
theorem peekR_len : ∀ r : Env, (peekR r).length = r.length
  | [] => rfl
  | x :: r => by
    cases x with
    | none => simp [peekR, peekR_len r]
    | some v => cases v <;> simp [peekR, peekR_len r]
theorem peekR_get : ∀ {r : Env} {i : Nat} {v : Vl}, (peekR r)[i]? = some (some v) → (∃ d, v = .dat d ∧ r[i]? = some (some (.dat d))) ∨ ∃ l, v = .dat (.list l) ∧ r[i]? = some (some (.own l))
  | [], _, _, h => by simp at h
  | x :: r, 0, v, h => by
    cases x with
    | none => simp at h
    | some u =>
      cases u with
      | dat d => simp at h; subst h; exact .inl ⟨d, rfl, rfl⟩
      | own l => simp at h; subst h; exact .inr ⟨l, rfl, rfl⟩
      | tok n => simp at h
      | lent l => simp at h
  | x :: r, i + 1, v, h => by
    have h2 : (peekR r)[i]? = some (some v) := by
      cases x with
      | none => simpa using h
      | some u => cases u <;> simpa using h
    rcases peekR_get h2 with ⟨d, e, z⟩ | ⟨l, e, z⟩
    · exact .inl ⟨d, e, by simpa using z⟩
    · exact .inr ⟨l, e, by simpa using z⟩
section
variable {K : FR} {c : Ctx K}
theorem so_peek {t : TE} {m : ME Unit} (h : SoundE (⟨WU K, c.mg, c.Wx⟩ : Ctx K) t m) : SoundE c t (sPeek m) := by
  classical
  intro a0 F0 H0 a g F H s r Q rp post
  let L : Addr → Prop := fun b => ∃ (i : Nat) (l : List PyData), r[i]? = some (some (.own l)) ∧ s[i]? = some (some (.ref b))
  let F1 : Hp := fun b => if L b then H b else F b
  have own1 : ∀ b, L b → F b = none ∧ ¬ c.W.reg a b ∧ ∃ xs, H b = some (.lst xs) := fun b ⟨i, l, hr, hs⟩ => by
    obtain ⟨x, h1, q, xs, rfl, hq, _, fq, rq⟩ := rp.slot i _ hr
    rw [hs] at h1
    cases h1
    exact ⟨fq, rq, xs, hq⟩
  have F1l : ∀ b, L b → F1 b = H b := fun b hb => if_pos hb
  have F1n : ∀ b, ¬ L b → F1 b = F b := fun b hb => if_neg hb
  have ff1 : ∀ b o, F b = some o → F1 b = some o := fun b o z => by
    rw [F1n b fun hb => by rw [(own1 b hb).1] at z; cases z]
    exact z
  have sub1 : ∀ b o, F1 b = some o → H b = some o := fun b o z => by
    by_cases hb : L b
    · rw [F1l b hb] at z; exact z
    · rw [F1n b hb] at z; exact rp.sub b o z
  have rp1 : Rep (WU K) () F1 H () () F1 H s (peekR r) := by
    refine ⟨Ext.refl sub1, True.intro, by rw [peekR_len]; exact rp.len, fun i v hi => ?_, fun i l hi => ?_, fun i l p hi => ?_⟩
    · rcases peekR_get hi with ⟨d, rfl, z⟩ | ⟨l, rfl, z⟩
      · obtain ⟨x, h1, h2⟩ := rp.slot i _ z
        exact ⟨x, h1, dp_mono ff1 _ h2⟩
      · obtain ⟨x, h1, p, xs, rfl, hq, hd, fq, rq⟩ := rp.slot i _ z
        exact ⟨_, h1, Dp.lst (Rd.of ((F1l p ⟨i, l, z, h1⟩).trans hq)) (dps_mono ff1 _ hd)⟩
    · rcases peekR_get hi with ⟨d, e, z⟩ | ⟨l, e, z⟩ <;> cases e
    · rcases peekR_get hi with ⟨d, e, z⟩ | ⟨l, e, z⟩ <;> cases e
  have fin : ∀ (F' H' : Hp) (u : Unit), Ext (WU K) () F1 H u F' H' → ∃ F3 : Hp, Ext c.W a F H a F3 H' ∧ c.W.at_ a g F3 H' ∧ (∀ b o, F' b = some o → (∀ xs, o ≠ .lst xs) → F3 b = some o) ∧ ∀ b, ¬ L b → F3 b = F' b := by
    intro F' H' u e
    let F3 : Hp := fun b => if L b then none else F' b
    have F3l : ∀ b, L b → F3 b = none := fun b hb => if_pos hb
    have F3n : ∀ b, ¬ L b → F3 b = F' b := fun b hb => if_neg hb
    have same : ∀ b, H b ≠ none → F b = none → F3 b = none ∧ H' b = H b := fun b z f => by
      by_cases hb : L b
      · obtain ⟨xs, hx⟩ := (own1 b hb).2.2
        have h2 := e.ff b _ ((F1l b hb).trans hx)
        exact ⟨F3l b hb, (e.fh b _ h2).trans hx.symm⟩
      · obtain ⟨p1, p2, _⟩ := e.st b z ((F1n b hb).trans f) (fun q => q.elim)
        exact ⟨(F3n b hb).trans p1, p2⟩
    have ff3 : ∀ b o, F b = some o → F3 b = some o := fun b o z => by
      have nb : ¬ L b := fun hb => by rw [(own1 b hb).1] at z; cases z
      rw [F3n b nb]
      exact e.ff b o (ff1 b o z)
    refine ⟨F3, ⟨ff3, fun b o z => ?_, fun b z f n => ⟨(same b z f).1, (same b z f).2, n⟩, fun b z f n => (same b z f).1, e.al, fun _ _ z => z⟩, ?_, fun b o z w => ?_, F3n⟩
    · by_cases hb : L b
      · rw [F3l b hb] at z; cases z
      · rw [F3n b hb] at z; exact e.fh b o z
    · exact c.W.keep rp.at_ ff3 fun b hb => same b (c.W.off rp.at_ hb).2 (c.W.off rp.at_ hb).1
    · by_cases hb : L b
      · obtain ⟨xs, hx⟩ := (own1 b hb).2.2
        have h2 := e.ff b _ ((F1l b hb).trans hx)
        rw [h2] at z
        cases z
        exact absurd rfl (w xs)
      · rw [F3n b hb]; exact z
  refine h _ _ _ _ _ _ _ _ _ _ rp1 ?_
  unfold sPeek at post
  cases hm : m (peekR r) () with
  | no => rw [hm] at post; exact post
  | er e0 g2 =>
    rw [hm] at post
    intro u F' H' C' d e t' i
    obtain ⟨F3, ext, ob, _⟩ := fin F' H' u e
    exact post a F3 H' C' d ext ob i
  | ok v g2 =>
    rw [hm] at post
    intro u F' H' x e t' i n
    obtain ⟨F3, ext, ob, down, F3n⟩ := fin F' H' u e
    cases v with
    | dat d =>
      by_cases z : flt d = true
      · simp only [z, if_true] at post
        exact post a F3 H' x ext ob (dp_flt down d z i) trivial
      · simp only [z] at post; exact post.elim
    | own l =>
      by_cases z : flts l = true
      · simp only [z, if_true] at post
        obtain ⟨q, xs, rfl, hq, hd, fq, _⟩ := i
        obtain ⟨q', eq, nq⟩ := n
        cases eq
        have nL : ¬ L q := fun hb => by
          obtain ⟨xs, hx⟩ := (own1 q hb).2.2
          rw [nq] at hx; cases hx
        exact post a F3 H' (.ref q) ext ob ⟨q, xs, rfl, hq, dp_flt.dps_flt down l z hd, (F3n q nL).trans fq, fun w => (c.W.off rp.at_ w).2 nq⟩ ⟨q, rfl, nq⟩
      · simp only [z] at post; exact post.elim
    | tok n => exact post.elim
    | lent l => exact post.elim
end
end CW
/-! CwSort2: sorted of tuples that are alike, the first of them empty. -/
namespace CW
open PySem PySem.Calls PyProof.Rows PySem.W PySem.SeqAt
section
variable {prog : Program} {w : World} {A : Around} {E : Value → Shared → Prop} {s : Shared}
theorem callTupLt {Q : Value → Shared → Prop} {l b : Addr} {items items2 : Array Value} {e r : Nat → Bool} (hl : s.heap.IsTuple l items) (hb : s.heap.IsTuple b items2)
    (he : ∀ j (h1 : j < items.size) (h2 : j < items2.size), EqAt A.in1 s items[j] items2[j] (e j)) (hr : ∀ j (h1 : j < items.size) (h2 : j < items2.size), e j = false → RcLt A.in1 s items[j] items2[j] (r j))
    (h : Q (.bool (firstLt e r (decide (items.size < items2.size)) (List.range (min items.size items2.size)))) s) : wpAny (model prog w) A (call (.builtin "tuple.__lt__") [.ref l, .ref b]) Q E s := by
  obtain ⟨⟨cls, dd, data, sl⟩, ho, hc, n, hd⟩ := id hl
  obtain ⟨⟨cls2, dd2, data2, sl2⟩, ho2, hc2, n2, hd2⟩ := id hb
  simp only at hc hd hc2 hd2
  subst hc hd hc2 hd2
  exact call_meets F.slot_tuple_lt ⟨_, ho, rfl⟩ F.entry_tuple_lt (F.args_tuple_lt_2 _ _) (tuple_ltAt l b items items2 n n2 dd dd2 sl sl2 e r) ⟨ho, ho2, he, hr, h⟩
theorem oneLtTup {xs ys : List PyData} {a b : Value} {as bs : List Addr} {Q : Bool → Shared → Prop} (ra : Reads s.heap a (.tuple xs) as) (rb : Reads s.heap b (.tuple ys) bs) (h : alike (.tuple xs) (.tuple ys) = true)
    (hu : A.units + min (PyData.tuple xs).depth (PyData.tuple ys).depth < cLine) (hq : Q (dataLt (.tuple xs) (.tuple ys)) s) : wpAny (model prog w) A (oneLt' true a b) Q E s := by
  have hal : alikeAll xs ys = true := by simpa [alike] using h
  cases ra with
  | @tuple l o vs n _ as₁ h1 h2 h3 h4 =>
    cases rb with
    | @tuple l' o' vs' n' _ bs₁ k1 k2 k3 k4 =>
      have n1 : vs.size = xs.length := by simpa using ReadsAll.length _ _ _ h4
      have n2 : vs'.size = ys.length := by simpa using ReadsAll.length _ _ _ k4
      rw [dataLt_tuple, ← firstLt_toks xs ys hal, ← n1, ← n2] at hq
      rw [oneLt'_eq]
      simp only [if_true]
      refine wpAny_bind (wpAny_cRoomFor (room_here hu) ?_)
      refine wpAny_bind (wpAny_callSpecialIfBound?_slot (T := "tuple") ⟨_, h1, h2⟩ F.slot_tuple_lt (callTupLt (e := pairEq xs ys) (r := fun j => dataLt (xs.getD j .none) (ys.getD j .none)) ⟨_, h1, h2, _, h3⟩ ⟨_, k1, k2, _, k3⟩ (fun j j1 j2 => ?_) (fun j j1 j2 hj => ?_) ?_))
      · have := eqAt_alikeAll xs ys A.in1 s vs.toList vs'.toList _ _ h4 k4 hal (room_in hu) j (by simpa using j1) (by simpa using j2)
        simpa using this
      · have := rcLt_alikeAll xs ys A.in1 s vs.toList vs'.toList _ _ h4 k4 hal (room_in hu) j (by simpa using j1) (by simpa using j2) hj
        simpa using this
      · exact wpAny_truthy_bool hq
theorem firstE {M : Model} {v : Value} {xs : List PyData} {as : List Addr} {Q' : Option Value → Shared → Prop} (r : Reads s.heap v (.tuple xs) as) (h : ∀ f : Option Value, (xs = [] → f = none) → Q' f s) : wpAny M A (firstOfTuple' v) Q' E s := by
  cases r with
  | @tuple l o vs n _ as₁ h1 h2 h3 h4 =>
    rw [kas_first_eq]
    refine wpAny_bind (wpAny_typeOf_ref h1 ?_)
    rw [h2, if_neg (by decide)]
    have n1 : vs.size = xs.length := by simpa using ReadsAll.length _ _ _ h4
    refine wpAny_bind (listItems_at h1 h3 (wpAny_pure (h _ fun e => ?_)))
    subst e
    have z : vs.size = 0 := n1
    simp [z]
theorem firstsE {M : Model} : ∀ (vs : List Value) (ds : List PyData) {Q : List (Option Value) → Shared → Prop}, EachIs (fun v d => ∃ as, Reads s.heap v d as) vs ds → (∀ d ∈ ds, isTup d = true) → (∀ fs : List (Option Value), fs.length = vs.length → (∀ r, ds = .tuple [] :: r → fs[0]? = some none) → Q fs s) → wpAny M A (vs.mapM firstOfTuple') Q E s
  | [], [], Q, _, _, h => by rw [List.mapM_nil]; exact wpAny_pure (h [] rfl fun r e => nomatch e)
  | v :: vs, d :: ds, Q, e, ht, h => by
    cases e with
    | cons r t =>
      obtain ⟨as, r⟩ := r
      have hd := ht d List.mem_cons_self
      unfold isTup at hd
      split at hd
      · rename_i xs
        rw [List.mapM_cons]
        refine wpAny_bind (firstE r fun f hf => ?_)
        refine wpAny_bind (firstsE vs ds t (fun d hd => ht d (List.mem_cons_of_mem _ hd)) fun fs hl _ => ?_)
        refine wpAny_pure (h _ (by simp [hl]) fun r' e => ?_)
        injection e with e1 e2
        injection e1 with e1
        rw [hf e1]
        rfl
      · cases hd
theorem kindE {M : Model} {vs : List Value} {ds : List PyData} {Q : SortKind → Shared → Prop} (h2 : 2 ≤ vs.length) (e : EachIs (fun v d => ∃ as, Reads s.heap v d as) vs ds) (ht : ∀ d ∈ ds, isTup d = true) (h0 : ∃ r, ds = .tuple [] :: r) (h : Q oneType' s) : wpAny M A (keyKind' vs.toArray) Q E s := by
  obtain ⟨r0, h0⟩ := h0
  rw [keyKind'_eq, List.mapM_toArray, map_eq_pure_bind]
  refine wpAny_bind (wpAny_bind (firstsE vs ds e ht fun fs hl hf => wpAny_pure ?_))
  have f0 := hf r0 h0
  have na : ¬ (fs.toArray.all fun x => x.isSome) = true := fun z => by
    rw [List.all_toArray, List.all_eq_true] at z
    have := z none (List.mem_of_getElem? f0)
    cases this
  have nb : ¬ ((fs.toArray[0]?.bind id).isSome) = true := by
    rw [List.getElem?_toArray, f0]
    simp
  rw [if_neg na, if_neg nb]
  rw [oneTypeOnly'_eq, List.mapM_toArray, map_eq_pure_bind]
  refine wpAny_bind (wpAny_bind (wpAny_bind (kas_mapM (r := Value.type "tuple") _ (fun v hv Q' hq => ?_) (wpAny_pure ?_))))
  · obtain ⟨d, hd, as, r⟩ := e.left v hv
    have := ht d hd
    unfold isTup at this
    split at this
    · exact (looks_reads r).here hq
    · cases this
  · have hall : ((List.map (fun _ => Value.type "tuple") vs).toArray.all fun x => x == Value.type "tuple") = true := by
      simp only [List.all_toArray, List.all_map, List.all_eq_true]
      intro _ _
      rfl
    have hz : (List.map (fun _ => Value.type "tuple") vs).toArray[0]? = some (Value.type "tuple") := by
      rw [List.getElem?_toArray, List.getElem?_map]
      cases vs with
      | nil => simp at h2
      | cons v vs => rfl
    rw [hz]
    simp only [hall, if_true]
    exact wpAny_pure (wpAny_pure h)
theorem sortsE {vs : List Value} {ds : List PyData} (e : EachIs (fun v d => ∃ as, Reads s.heap v d as) vs ds) (hal : AllAlike ds) (ht : ∀ d ∈ ds, isTup d = true) (h0 : ∃ r, ds = .tuple [] :: r) (hu : ∀ d, d ∈ ds → A.units + d.depth < cLine) : SortsAt prog w A s (dataKind s.heap ds) vs := by
  have room : ∀ {d d' : PyData}, d ∈ ds → A.units + min d.depth d'.depth < cLine := fun {d d'} hd => Nat.lt_of_le_of_lt (Nat.add_le_add_left (Nat.min_le_left _ _) _) (hu d hd)
  refine ⟨fun v hv => ?_, oneType', ?_, fun h2 E Q hq => kindE h2 e ht h0 hq⟩
  · obtain ⟨d, hd, as, r⟩ := e.left v hv
    exact ⟨_, dataKind_some hal hd r⟩
  · intro E x y a b Q ha hb hq
    obtain ⟨d, as, hd, ra, rfl⟩ := dataKind_inv ha
    obtain ⟨d', as', hd', rb, rfl⟩ := dataKind_inv hb
    rw [keyLt'_oneType]
    have t1 := ht d hd
    have t2 := ht d' hd'
    unfold isTup at t1 t2
    split at t1
    · split at t2
      · exact oneLtTup ra rb (hal _ hd _ hd') (room hd) hq
      · cases t2
    · cases t1
end
open L2
def rSrtE (K : FR) : List V → Hp → VK → Prop := fun vs H Q => ∃ (a : Addr) (xs : List V) (ds : List PyData) (F : Hp), vs = [V.ref a] ∧ SqL K H a xs ∧ (∀ b o, F b = some o → H b = some o) ∧ DpAll K F xs ds ∧ PySem.W.AllAlike ds ∧ (PySem.W.Sortable ds ∨ ((∀ d ∈ ds, isTup d = true) ∧ ∃ r, ds = .tuple [] :: r)) ∧ (∀ d ∈ ds, shp 12 d = true) ∧ ds.length ≤ 100000 ∧
  ∀ (ys : List V) (p : Addr), DpAll K F ys (srtD ds) → H p = none → Q (.ref p) (upd H p (.lst ys))
theorem cr_srtE {X : Cx} (hu : X.A.units + 64 < cLine) : CallR X (.builtin "sorted") (rSrtE X.K) := by
  intro pins s σ H vs us Q I r h
  obtain ⟨a, xs, ds, F, rfl, hs, sub, hd, hal, hk, hsh, hl100, q⟩ := h
  rcases hk with hk | ⟨ht, h0⟩
  · exact cr_srtD hu pins s σ H _ us Q I r ⟨a, xs, ds, F, rfl, hs, sub, hd, hal, hk, hsh, hl100, q⟩
  obtain ⟨its, rv, hl, hlen⟩ := I.list hs
  rw [Vals.ref1 r]
  have e := each_dps hd rv
  have dl : ds.length = its.length := (dps_len hd).symm.trans rv.length
  have er : PySem.W.EachIs (fun v d => ∃ as, Reads s.heap v (id d) as) its ds := e.mono fun v d ⟨x, r, h⟩ => Dp.reads I d x v (dp_lib d (dp_mono sub d h)) r
  have hal' : PySem.W.AllAlike (ds.map id) := by rw [List.map_id]; exact hal
  have h100 : (100000 : Nat) ≤ sizeLine := by decide
  have er' : EachIs (fun v b => ∃ as, Reads (sortingHeap (copyHeap s.heap its) (s.heap.objs.size + 1) its) v b as) its ds := er.mono fun _ _ ⟨as, r⟩ => ⟨as, PyProof.Rows.Reads.keeps (fun _ _ => sorting_copy_old) r⟩
  have er'' : EachIs (fun v b => ∃ as, Reads (sortingHeap (copyHeap s.heap its) (s.heap.objs.size + 1) its) v (id b) as) its ds := er'
  have fin : ∀ out : List Value, out.length = ds.length → EachIs (fun v d => ∃ x, RelV x v ∧ Dp X.K F x d) out (ds.mergeSort (dataLe false id)) → EP X pins σ Q (.ref (s.heap.objs.size + 1)) { s with heap := sortedAll s.heap its (List.toArray out) } := fun out hlo heo => by
    obtain ⟨ys, hv, hy⟩ := dps_each heo
    obtain ⟨ep, he'⟩ := PyProof.Rows.sortedAll_at s.heap its out.toArray
    have hyl : ys.length ≤ sizeLine := by rw [hv.length, hlo]; omega
    exact ⟨.ref _, upd H (s.heap.objs.size + 1) (.lst ys), I.laid (t' := s.toks) (fun _ _ => PyProof.Rows.sortedAll_old) (Nat.le_succ _) ⟨hyl, out, ep, hv, he'⟩, rfl, q ys _ hy (I.hok.fresh (Nat.le_succ _))⟩
  have key := sortVals_data (R := fun v d => ∃ x, RelV x v ∧ Dp X.K F x d) (enc := id) false e er'' hal'
  have S : SortsAt X.prog X.w X.A.in1.in1 { s with heap := sortingHeap (copyHeap s.heap its) (s.heap.objs.size + 1) its } (dataKind (sortingHeap (copyHeap s.heap its) (s.heap.objs.size + 1) its) ds) its := sortsE (s := { s with heap := sortingHeap (copyHeap s.heap its) (s.heap.objs.size + 1) its }) er' hal ht h0 fun d hdm => by
    have := (shp_lay d 12 (hsh d hdm)).2
    show X.A.units + 2 + d.depth < cLine
    omega
  rw [List.map_id] at key
  exact sorted_vals hl.isList S (by omega) (fin _ (by rw [sortVals_length false rfl]; omega) key)
section
variable {K : FR} {c : Ctx K}
theorem srtOkE_spec {l : List PyData} (h : srtOkE l = true) : PySem.W.AllAlike l ∧ ((∀ d ∈ l, isTup d = true) ∧ ∃ r, l = .tuple [] :: r) ∧ (∀ d ∈ l, shp 12 d = true) ∧ l.length ≤ 100000 := by
  unfold srtOkE at h
  rw [Bool.and_eq_true, Bool.and_eq_true, Bool.and_eq_true, Bool.and_eq_true] at h
  obtain ⟨h0, ⟨⟨h1, h2⟩, h3⟩, h4⟩ := h
  refine ⟨fun d hd e he => List.all_eq_true.mp (List.all_eq_true.mp h1 d hd) e he, ⟨fun d hd => List.all_eq_true.mp h2 d hd, ?_⟩, fun d hd => List.all_eq_true.mp h3 d hd, of_decide_eq_true h4⟩
  split at h0
  · exact ⟨_, rfl⟩
  · cases h0
theorem sb_srtE : SoundB c (rSrtE K) bSrtE := by
  intro a g F H Hs xs vs w Q sub t i h k
  unfold bSrtE at h
  split at h
  · rename_i v
    unfold oSrtE at h
    split at h
    · rename_i l hl
      split at h
      · rename_i hok
        cases h
        have sp : PySem.W.AllAlike l ∧ (PySem.W.Sortable l ∨ ((∀ d ∈ l, isTup d = true) ∧ ∃ r, l = .tuple [] :: r)) ∧ (∀ d ∈ l, shp 12 d = true) ∧ l.length ≤ 100000 := by
          rcases hok with hok | hok
          · obtain ⟨h1, h2, h3, h4⟩ := srtOk_spec hok
            exact ⟨h1, .inl h2, h3, h4⟩
          · obtain ⟨h1, h2, h3, h4⟩ := srtOkE_spec hok
            exact ⟨h1, .inr h2, h3, h4⟩
        obtain ⟨h1, h2, h3, h4⟩ := sp
        cases i with
        | cons iv n d t2 =>
          cases t2
          obtain ⟨p, ys, rfl, hp, hd⟩ := iv.lst sub hl
          exact ⟨p, ys, l, F, rfl, .inl hp, sub, hd, h1, h2, h3, h4, fun zs q hz hq => own_new (c := c) sub t hz hq fun F3 H3 z e3 i3 n3 => k F3 H3 z e3 i3 n3⟩
      · cases h
    · cases h
  · cases h
end
end CW
/-! CwSem4: a list of lists of its own, known to a block of statements alone. -/
namespace CW
open PySem
abbrev GN (G : Type) := G × Option (List FV)
/-- the thing's number -/
abbrev TN : Nat := 1000
@[simp] def hide : Env → Env
  | [] => []
  | some (.tok n) :: r => (if n = TN then none else some (.tok n)) :: hide r
  | x :: r => x :: hide r
/-- a part that knows nothing of the thing -/
@[simp] def sUp {G : Type} (m : ME G) : ME (GN G) := fun r g => match m (hide r) g.1 with
  | .ok (.tok n) g' => if n = TN then .no else .ok (.tok n) (g', g.2)
  | .ok (.lent _) _ => .no
  | .ok v g' => .ok v (g', g.2)
  | .er e g' => .er e (g', g.2)
  | .no => .no
@[simp] def outHide {G : Type} : Out (GN G) → Out G
  | .nx r g => .nx (hide r) g.1
  | .bk r g => .bk (hide r) g.1
  | .ct r g => .ct (hide r) g.1
  | .rt (.tok n) g => if n = TN then .no else .rt (.tok n) g.1
  | .rt v g => .rt v g.1
  | .er e r g => .er e (hide r) g.1
  | .no => .no
/-- a block that may know one thing -/
@[simp] def sWith {G : Type} (m : MS (GN G)) : MS G := fun r g => outHide (m (hide r) (g, none))
/-- all lists seen as data -/
@[simp] def peekN (o : Option (List FV)) : Env → Env
  | [] => []
  | some (.dat d) :: r => some (.dat d) :: peekN o r
  | some (.own l) :: r => some (.dat (.list l)) :: peekN o r
  | some (.tok n) :: r => (if n = TN then o.map fun fs => .dat (.list (frzG fs)) else none) :: peekN o r
  | _ :: r => none :: peekN o r
@[simp] def sPeekN {G : Type} (m : ME Unit) : ME (GN G) := fun r g => match m (peekN g.2 r) () with
  | .ok (.dat d) _ => if flt d = true then .ok (.dat d) g else .no
  | .ok (.own l) _ => if flts l = true then .ok (.own l) g else .no
  | .er e _ => .er e g
  | _ => .no
@[simp] def toFV : List Vl → Option (List FV)
  | [] => some []
  | .dat d :: vs => (toFV vs).map (FV.dat d :: ·)
  | .own l :: vs => (toFV vs).map (FV.own l :: ·)
  | _ => none
/-- [e, ..]: the thing -/
@[simp] def sNLst {G : Type} (a : MA (GN G)) : ME (GN G) := fun r g => (a r g).bind fun vs g1 => match g1.2, toFV vs with
  | none, some fs => if fs.length ≤ 100000 then .ok (.tok TN) (g1.1, some fs) else .no
  | _, _ => .no
def lcGoN {G : Type} (r : Env) (tg : MG) (e : ME (GN G)) : List PyData → List FV → GN G → R (List FV) (GN G)
  | [], acc, g => .ok acc g
  | x :: xs, acc, g => match tg (.dat x) r with
    | none => .no
    | some r' => match e r' g with
      | .ok (.own l) g2 => lcGoN r tg e xs (acc ++ [.own l]) g2
      | _ => .no
/-- [e for x in it], e new lists: the thing -/
@[simp] def sNLc {G : Type} (it : MI (GN G)) (tg : MG) (e : ME (GN G)) (vs : List Nat) : ME (GN G) := fun r g => (it r g).bind fun items g1 =>
  if items.length ≤ 100000 then (match lcGoN (wipe r vs) tg e items [] g1 with
    | .ok acc g2 => (match g2.2 with
      | none => .ok (.tok TN) (g2.1, some acc)
      | some _ => .no)
    | _ => .no) else .no
/-- x[y][z] = e, x the thing, y and z slots of numbers -/
@[simp] def sNSet {G : Type} (i j k : Nat) (e : ME (GN G)) : MS (GN G) := fun r g => match r[i]? with
  | some (some (.tok n)) => if n = TN then (e r g).out r fun v g1 => match v, r[j]?, r[k]?, g1.2 with
    | .dat d, some (some (.dat (.int j1))), some (some (.dat (.int j2))), some fs => (match atN fs.length j1 with
      | some n1 => (match fs[n1]? with
        | some (.own l) => (match atN l.length j2 with
          | some n2 => .nx r (g1.1, some (fs.set n1 (.own (l.set n2 d))))
          | none => .no)
        | _ => .no)
      | none => .no)
    | _, _, _, _ => .no
    else .no
  | _ => .no
/-- x[c].clear(), x the thing -/
@[simp] def sNClr {G : Type} (i : Nat) (c : Int) : MS (GN G) := fun r g => match r[i]? with
  | some (some (.tok n)) => if n = TN then (match g.2 with
      | some fs => (match atN fs.length c with
        | some n1 => (match fs[n1]? with
          | some (.own _) => .nx r (g.1, some (fs.set n1 (.own [])))
          | _ => .no)
        | none => .no)
      | none => .no)
    else .no
  | _ => .no
/-- a def that is handed a thing of the world below -/
@[simp] def sCallTN {G : Type} (n0 : Nat) (f : List PyData → G → R Vl G) (a : MA (GN G)) : ME (GN G) := fun r g => (a r g).bind fun vs g1 => match vs with
  | .tok k :: vs => if k = n0 then (match frzAll vs with
    | some ds => (match f ds g1.1 with
      | .ok (.dat d) g2 => .ok (.dat d) (g2, g1.2)
      | .ok (.own l) g2 => .ok (.own l) (g2, g1.2)
      | .er e g2 => .er e (g2, g1.2)
      | _ => .no)
    | none => .no) else .no
  | _ => .no
end CW
/-! CwSem5: more of what a law's code is said to do. -/
namespace CW
open PySem
/-- x * k, x a slot's own list -/
@[simp] noncomputable def oMulL : Vl → Vl → Option Vl
  | .lent l, .dat (.int k) => if l.length * k.toNat ≤ 100000 ∧ -BIGW ≤ k ∧ k < BIGW then some (.own (repL l k)) else none
  | _, _ => none
/-- slot i is empty -/
@[simp] def isFree (r : Env) (i : Nat) : Bool := match r[i]? with
  | some none => true
  | _ => false
/-- try: body, except .. as e: raise X(k) from e; i is e's slot, ns are the names of what is caught -/
@[simp] def sTryR {G : Type} (ns : List Str) (i : Nat) (x : Str) (b : MS G) (m : ME G) : MS G := fun r g => match b r g with
  | .er e r1 g1 => if e.cls ∈ ns ∧ isFree r1 i = true then sRaiseA x m r1 g1 else .no
  | o => o
end CW
/-! CwNest: a block of statements that knows one list of lists of its own. -/
namespace CW
open PySem L2
section
variable {K : FR}
abbrev NA := Option (Addr × List Addr)
def naIn (o : NA) (b : Addr) : Prop := ∃ p qs, o = some (p, qs) ∧ b ∈ p :: qs
structure NAt (K : FR) (F H : Hp) (p : Addr) (qs : List Addr) (fs : List FV) : Prop where
  lst : ∃ xs, H p = some (.lst xs) ∧ FvsAt K F H qs xs fs
  nd : (p :: qs).Nodup
  fn : ∀ b ∈ p :: qs, F b = none
theorem NAt.off {F H : Hp} {p : Addr} {qs : List Addr} {fs : List FV} (n : NAt K F H p qs fs) : ∀ b ∈ p :: qs, F b = none ∧ ∃ xs, H b = some (.lst xs) := fun b hb => by
  refine ⟨n.fn b hb, ?_⟩
  obtain ⟨xs, h1, h2⟩ := n.lst
  rcases List.mem_cons.mp hb with rfl | hb
  · exact ⟨xs, h1⟩
  · have key : ∀ {qs : List Addr} {vs : List V} {gs : List FV}, FvsAt K F H qs vs gs → ∀ b ∈ qs, ∃ xs, H b = some (.lst xs) := fun {qs vs gs} w => by
      induction w with
      | nil => intro b hb; cases hb
      | dat _ _ ih => exact ih
      | own q _ _ ih =>
        intro b hb
        rcases List.mem_cons.mp hb with rfl | hb
        · exact ⟨_, q⟩
        · exact ih b hb
    exact key h2 b hb
theorem NAt.keep {F H F' H' : Hp} {p : Addr} {qs : List Addr} {fs : List FV} (n : NAt K F H p qs fs) (ff : ∀ b o, F b = some o → F' b = some o) (hr : ∀ b ∈ p :: qs, F' b = none ∧ H' b = H b) : NAt K F' H' p qs fs := by
  obtain ⟨xs, h1, h2⟩ := n.lst
  exact ⟨⟨xs, (hr p List.mem_cons_self).2.trans h1, h2.mono ff fun b hb => (hr b (List.mem_cons_of_mem _ hb)).2⟩, n.nd, fun b hb => (hr b hb).1⟩
@[reducible] def WN (W0 : Wld K) : Wld K where
  G := W0.G × Option (List FV)
  A := W0.A × NA
  tok := fun a n => if n = TN then a.2.map (·.1) else W0.tok a.1 n
  reg := fun a b => W0.reg a.1 b ∨ naIn a.2 b
  at_ := fun a g F H => W0.at_ a.1 g.1 F H ∧ ((a.2 = none ∧ g.2 = none) ∨ ∃ p qs fs, a.2 = some (p, qs) ∧ g.2 = some fs ∧ NAt K F H p qs fs ∧ ∀ b ∈ p :: qs, ¬ W0.reg a.1 b)
  keep := fun {a g F H F' H'} h ff hr => by
    refine ⟨W0.keep h.1 ff fun b hb => hr b (.inl hb), ?_⟩
    rcases h.2 with ⟨h1, h2⟩ | ⟨p, qs, fs, h1, h2, h3, h4⟩
    · exact .inl ⟨h1, h2⟩
    · exact .inr ⟨p, qs, fs, h1, h2, h3.keep ff fun b hb => hr b (.inr ⟨p, qs, h1, hb⟩), h4⟩
  off := fun {a g F H b} h r => by
    rcases r with r | ⟨p, qs, e, hb⟩
    · exact W0.off h.1 r
    · rcases h.2 with ⟨h1, h2⟩ | ⟨p', qs', fs, h1, h2, h3, h4⟩
      · rw [h1] at e; cases e
      · rw [h1] at e
        cases e
        obtain ⟨z1, xs, z2⟩ := h3.off b hb
        exact ⟨z1, by rw [z2]; simp⟩
/-! ### hide -/
theorem hide_len : ∀ r : Env, (hide r).length = r.length
  | [] => rfl
  | x :: r => by
    cases x with
    | none => simp [hide, hide_len r]
    | some v => cases v <;> simp [hide, hide_len r]
theorem hide_get : ∀ {r : Env} {i : Nat} {v : Vl}, (hide r)[i]? = some (some v) → r[i]? = some (some v) ∧ ∀ n, v = .tok n → n ≠ TN
  | [], _, _, h => by simp at h
  | x :: r, 0, v, h => by
    cases x with
    | none => simp at h
    | some u =>
      cases u with
      | tok n =>
        simp only [hide] at h
        by_cases c : n = TN
        · simp [c] at h
        · simp [c] at h
          subst h
          exact ⟨rfl, fun m e => by cases e; exact c⟩
      | dat d => simp at h; subst h; exact ⟨rfl, fun m e => nomatch e⟩
      | own d => simp at h; subst h; exact ⟨rfl, fun m e => nomatch e⟩
      | lent d => simp at h; subst h; exact ⟨rfl, fun m e => nomatch e⟩
  | x :: r, i + 1, v, h => by
    have h2 : (hide r)[i]? = some (some v) := by
      cases x with
      | none => simpa using h
      | some u => cases u <;> simpa using h
    obtain ⟨z1, z2⟩ := hide_get h2
    exact ⟨by simpa using z1, z2⟩
variable {W0 : Wld K} {mg : Str → Option Value} {Wx : WX}
abbrev cN (W0 : Wld K) (mg : Str → Option Value) (Wx : WX) : Ctx K := ⟨WN W0, mg, Wx⟩
/-! ### a part that knows nothing of the thing -/
theorem ext_up {a : (WN W0).A} {g : (WN W0).G} {F H F' H' : Hp} {a' : W0.A} {g' : W0.G} (t : (WN W0).at_ a g F H) (e : Ext W0 a.1 F H a' F' H') (t' : W0.at_ a' g' F' H') : Ext (WN W0) a F H (a', a.2) F' H' ∧ (WN W0).at_ (a', a.2) (g', g.2) F' H' := by
  have th : ∀ b, naIn a.2 b → F b = none ∧ H b ≠ none ∧ ¬ W0.reg a.1 b := fun b ⟨p, qs, e1, hb⟩ => by
    rcases t.2 with ⟨h1, h2⟩ | ⟨p', qs', fs, h1, h2, h3, h4⟩
    · rw [h1] at e1; cases e1
    · rw [h1] at e1
      cases e1
      obtain ⟨z1, xs, z2⟩ := h3.off b hb
      exact ⟨z1, by rw [z2]; simp, h4 b hb⟩
  refine ⟨⟨e.ff, e.fh, fun b z f n => ?_, fun b z f n => ?_, e.al, fun i b z => ?_⟩, t', ?_⟩
  · obtain ⟨z1, z2, z3⟩ := e.st b z f fun q => n (.inl q)
    exact ⟨z1, z2, fun q => q.elim z3 fun q => n (.inr q)⟩
  · by_cases q : W0.reg a.1 b
    · exact e.rg b z f q
    · exact (e.st b z f q).1
  · show (if i = TN then a.2.map (·.1) else W0.tok a' i) = some b
    have z' : (if i = TN then a.2.map (·.1) else W0.tok a.1 i) = some b := z
    by_cases c : i = TN
    · rw [if_pos c] at z' ⊢; exact z'
    · rw [if_neg c] at z' ⊢; exact e.tk i b z'
  · rcases t.2 with ⟨h1, h2⟩ | ⟨p, qs, fs, h1, h2, h3, h4⟩
    · exact .inl ⟨h1, h2⟩
    · refine .inr ⟨p, qs, fs, h1, h2, h3.keep e.ff fun b hb => ?_, fun b hb => ?_⟩
      · obtain ⟨z1, z2, z3⟩ := th b ⟨p, qs, h1, hb⟩
        obtain ⟨q1, q2, _⟩ := e.st b z2 z1 z3
        exact ⟨q1, q2⟩
      · obtain ⟨z1, z2, z3⟩ := th b ⟨p, qs, h1, hb⟩
        exact (e.st b z2 z1 z3).2.2
theorem so_up {t : TE} {m : ME W0.G} (h : SoundE (⟨W0, mg, Wx⟩ : Ctx K) t m) : SoundE (cN W0 mg Wx) t (sUp m) := by
  classical
  intro a0 F0 H0 a g F H s r Q rp post
  let L : Addr → Prop := fun b => ∃ (i : Nat) (l : List PyData), r[i]? = some (some (.own l)) ∧ s[i]? = some (some (.ref b))
  let H1 : Hp := fun b => if L b then none else H b
  have own1 : ∀ b, L b → F b = none := fun b ⟨i, l, hr, hs⟩ => by
    obtain ⟨x, h1, q, xs, rfl, hq, _, fq, rq⟩ := rp.slot i _ hr
    rw [hs] at h1
    cases h1
    exact fq
  have sub1 : ∀ b u, F b = some u → H1 b = some u := fun b u z => by
    have nn : ¬ L b := fun q => by rw [own1 b q] at z; cases z
    show (if L b then none else H b) = some u
    rw [if_neg nn]
    exact rp.sub b u z
  have le1 : ∀ b, H1 b ≠ none → H1 b = H b := fun b z => by
    by_cases q : L b
    · exact absurd (if_pos q) z
    · exact if_neg q
  have at0 : W0.at_ a.1 g.1 F H := rp.at_.1
  have rp2 : Rep W0 a.1 F H1 a.1 g.1 F H s (hide r) := by
    refine ⟨⟨fun _ _ z => z, rp.sub, fun b z f n => ⟨f, (le1 b z).symm, n⟩, fun b z f n => f, fun b z => by rw [← le1 b z]; exact z, fun _ _ z => z⟩, at0, by rw [hide_len]; exact rp.len, fun i v hi => ?_, fun i l hi => ?_, fun i l p hi hs => ?_⟩
    · obtain ⟨hi, hn⟩ := hide_get hi
      obtain ⟨x, h1, h2⟩ := rp.slot i v hi
      refine ⟨x, h1, ?_⟩
      cases v with
      | dat d => exact h2
      | tok n =>
        obtain ⟨p, z, e⟩ := h2
        have z' : (if n = TN then a.2.map (·.1) else W0.tok a.1 n) = some p := z
        rw [if_neg (hn n rfl)] at z'
        exact ⟨p, z', e⟩
      | lent l => exact absurd hi (rp.nol i l)
      | own l =>
        obtain ⟨q, xs, e, hq, hd, fq, rq⟩ := h2
        exact ⟨q, xs, e, hq, hd, fq, fun z => rq (.inl z)⟩
    · exact rp.nol i l (hide_get hi).1
    · obtain ⟨hi, _⟩ := hide_get hi
      refine ⟨if_pos ⟨i, l, hi, hs⟩, fun j m ne hj => (rp.own i l p hi hs).2 j m ne (hide_get hj).1⟩
  refine h _ _ _ _ _ _ _ _ _ _ rp2 ?_
  unfold sUp at post
  have thn : ∀ b, naIn a.2 b → H b ≠ none := fun b hb => (((WN W0).off rp.at_ (.inr hb)).2)
  cases hm : m (hide r) g.1 with
  | no => rw [hm] at post; exact post
  | er e0 g2 =>
    rw [hm] at post
    intro a' F' H' C' d e t' i
    obtain ⟨z1, z2⟩ := ext_up rp.at_ e t'
    exact post (a', a.2) F' H' C' d z1 z2 i
  | ok v g2 =>
    rw [hm] at post
    intro a' F' H' x e t' i n
    obtain ⟨z1, z2⟩ := ext_up rp.at_ e t'
    cases v with
    | dat d => exact post (a', a.2) F' H' x z1 z2 i n
    | tok k =>
      simp only at post
      by_cases c : k = TN
      · rw [if_pos c] at post; exact post.elim
      · rw [if_neg c] at post
        obtain ⟨p, z, e⟩ := i
        exact post (a', a.2) F' H' x z1 z2 ⟨p, by show (if k = TN then a.2.map (·.1) else W0.tok a' k) = some p; rw [if_neg c]; exact z, e⟩ n
    | lent l => exact post.elim
    | own l =>
      obtain ⟨q, xs, rfl, hq, hd, fq, rq⟩ := i
      obtain ⟨q', eq, nq⟩ := n
      cases eq
      exact post (a', a.2) F' H' (.ref q) z1 z2 ⟨q, xs, rfl, hq, hd, fq, fun z => z.elim rq fun z => thn q z nq⟩ ⟨q, rfl, nq⟩
/-! ### a block that may know one thing -/
theorem Rep.down {a0 : W0.A} {a : (WN W0).A} {g : (WN W0).G} {F0 H0 F H : Hp} {s : L2.St} {r : Env} (hk : ∀ a, W0.tok a TN = none) (rp : Rep (WN W0) (a0, none) F0 H0 a g F H s r) : Rep W0 a0 F0 H0 a.1 g.1 F H s (hide r) := by
  refine ⟨⟨rp.ext.ff, rp.ext.fh, fun b z f n => ?_, fun b z f n => rp.ext.rg b z f (.inl n), rp.ext.al, fun i b z => ?_⟩, rp.at_.1, by rw [hide_len]; exact rp.len, fun i v hi => ?_, fun i l hi => rp.nol i l (hide_get hi).1, fun i l p hi hs => ?_⟩
  · obtain ⟨z1, z2, z3⟩ := rp.ext.st b z f fun q => q.elim n fun ⟨p, qs, e, _⟩ => nomatch e
    exact ⟨z1, z2, fun q => z3 (.inl q)⟩
  · have c : i ≠ TN := fun c => by rw [c, hk] at z; cases z
    have := rp.ext.tk i b (by show (if i = TN then _ else W0.tok a0 i) = some b; rw [if_neg c]; exact z)
    have h2 : (if i = TN then a.2.map (·.1) else W0.tok a.1 i) = some b := this
    rwa [if_neg c] at h2
  · obtain ⟨hi, hn⟩ := hide_get hi
    obtain ⟨x, h1, h2⟩ := rp.slot i v hi
    refine ⟨x, h1, ?_⟩
    cases v with
    | dat d => exact h2
    | tok n =>
      obtain ⟨p, z, e⟩ := h2
      have z' : (if n = TN then a.2.map (·.1) else W0.tok a.1 n) = some p := z
      rw [if_neg (hn n rfl)] at z'
      exact ⟨p, z', e⟩
    | lent l => exact absurd hi (rp.nol i l)
    | own l =>
      obtain ⟨q, xs, e, hq, hd, fq, rq⟩ := h2
      exact ⟨q, xs, e, hq, hd, fq, fun z => rq (.inl z)⟩
  · obtain ⟨hi, _⟩ := hide_get hi
    obtain ⟨z1, z2⟩ := rp.own i l p hi hs
    exact ⟨z1, fun j m ne hj => z2 j m ne (hide_get hj).1⟩
theorem Rep.raise {a0 a : W0.A} {g : W0.G} {F0 H0 F H : Hp} {s : L2.St} {r : Env} (rp : Rep W0 a0 F0 H0 a g F H s r) : Rep (WN W0) (a0, none) F0 H0 (a, none) (g, none) F H s (hide r) := by
  have nr : ∀ {a : W0.A} {b : Addr}, (WN W0).reg (a, none) b → W0.reg a b := fun q => q.elim id fun ⟨p, qs, e, _⟩ => nomatch e
  refine ⟨⟨rp.ext.ff, rp.ext.fh, fun b z f n => ?_, fun b z f n => rp.ext.rg b z f (nr n), rp.ext.al, fun i b z => ?_⟩, ⟨rp.at_, .inl ⟨rfl, rfl⟩⟩, by rw [hide_len]; exact rp.len, fun i v hi => ?_, fun i l hi => rp.nol i l (hide_get hi).1, fun i l p hi hs => ?_⟩
  · obtain ⟨z1, z2, z3⟩ := rp.ext.st b z f fun q => n (.inl q)
    exact ⟨z1, z2, fun q => z3 (nr q)⟩
  · have z' : (if i = TN then (none : NA).map (·.1) else W0.tok a0 i) = some b := z
    show (if i = TN then (none : NA).map (·.1) else W0.tok a i) = some b
    by_cases c : i = TN
    · rw [if_pos c] at z'; cases z'
    · rw [if_neg c] at z' ⊢; exact rp.ext.tk i b z'
  · obtain ⟨hi, hn⟩ := hide_get hi
    obtain ⟨x, h1, h2⟩ := rp.slot i v hi
    refine ⟨x, h1, ?_⟩
    cases v with
    | dat d => exact h2
    | tok n =>
      obtain ⟨p, z, e⟩ := h2
      exact ⟨p, by show (if n = TN then _ else W0.tok a n) = some p; rw [if_neg (hn n rfl)]; exact z, e⟩
    | lent l => exact absurd hi (rp.nol i l)
    | own l =>
      obtain ⟨q, xs, e, hq, hd, fq, rq⟩ := h2
      exact ⟨q, xs, e, hq, hd, fq, fun z => rq (nr z)⟩
  · obtain ⟨hi, _⟩ := hide_get hi
    obtain ⟨z1, z2⟩ := rp.own i l p hi hs
    exact ⟨z1, fun j m ne hj => z2 j m ne (hide_get hj).1⟩
theorem ss_with {t : TS} {m : MS (GN W0.G)} (hk : ∀ a, W0.tok a TN = none) (h : SoundS (cN W0 mg Wx) t m) : SoundS (⟨W0, mg, Wx⟩ : Ctx K) t (sWith m) := by
  intro a0 F0 H0 a g F H s r D rp post
  refine h _ _ _ _ _ _ _ _ _ D rp.raise ?_
  unfold sWith at post
  cases hm : m (hide r) (g, none) with
  | no => rw [hm] at post; exact post.elim
  | nx r2 g2 => rw [hm] at post; exact fun a' F' H' s' rp' k => post a'.1 F' H' s' (rp'.down hk) k
  | bk r2 g2 => rw [hm] at post; exact fun a' F' H' s' rp' k => post a'.1 F' H' s' (rp'.down hk) k
  | ct r2 g2 => rw [hm] at post; exact fun a' F' H' s' rp' k => post a'.1 F' H' s' (rp'.down hk) k
  | er e r2 g2 => rw [hm] at post; exact fun a' F' H' s' C d rp' i => post a'.1 F' H' s' C d (rp'.down hk) i
  | rt v g2 =>
    rw [hm] at post
    intro a' F' H' x e t' i n
    have e0 : Ext W0 a0 F0 H0 a'.1 F' H' := by
      refine ⟨e.ff, e.fh, fun b z f n => ?_, fun b z f n => e.rg b z f (.inl n), e.al, fun i b z => ?_⟩
      · obtain ⟨z1, z2, z3⟩ := e.st b z f fun q => q.elim n fun ⟨p, qs, e, _⟩ => nomatch e
        exact ⟨z1, z2, fun q => z3 (.inl q)⟩
      · have c : i ≠ TN := fun c => by rw [c, hk] at z; cases z
        have := e.tk i b (by show (if i = TN then _ else W0.tok a0 i) = some b; rw [if_neg c]; exact z)
        have h2 : (if i = TN then a'.2.map (·.1) else W0.tok a'.1 i) = some b := this
        rwa [if_neg c] at h2
    cases v with
    | dat d => exact post a'.1 F' H' x e0 t'.1 i n
    | own l =>
      obtain ⟨q, xs, e1, hq, hd, fq, rq⟩ := i
      exact post a'.1 F' H' x e0 t'.1 ⟨q, xs, e1, hq, hd, fq, fun z => rq (.inl z)⟩ n
    | lent l =>
      obtain ⟨q, xs, e1, hq, hd, fq, rq⟩ := i
      exact post a'.1 F' H' x e0 t'.1 ⟨q, xs, e1, hq, hd, fq, fun z => rq (.inl z)⟩ n
    | tok k =>
      simp only [outHide] at post
      by_cases c : k = TN
      · rw [if_pos c] at post; exact post.elim
      · rw [if_neg c] at post
        obtain ⟨p, z, e1⟩ := i
        have z' : (if k = TN then a'.2.map (·.1) else W0.tok a'.1 k) = some p := z
        rw [if_neg c] at z'
        exact post a'.1 F' H' x e0 t'.1 ⟨p, z', e1⟩ n
end
end CW
/-! CwNest2: the thing made, looked at, changed. -/
namespace CW
open PySem L2
section
variable {K : FR} {W0 : Wld K} {mg : Str → Option Value} {Wx : WX}
theorem peekN_len (o : Option (List FV)) : ∀ r : Env, (peekN o r).length = r.length
  | [] => rfl
  | x :: r => by
    cases x with
    | none => simp [peekN, peekN_len o r]
    | some v => cases v <;> simp [peekN, peekN_len o r]
theorem peekN_get (o : Option (List FV)) : ∀ {r : Env} {i : Nat} {v : Vl}, (peekN o r)[i]? = some (some v) → (∃ d, v = .dat d ∧ r[i]? = some (some (.dat d))) ∨ (∃ l, v = .dat (.list l) ∧ r[i]? = some (some (.own l))) ∨ ∃ fs, o = some fs ∧ v = .dat (.list (frzG fs)) ∧ r[i]? = some (some (.tok TN))
  | [], _, _, h => by simp at h
  | x :: r, 0, v, h => by
    cases x with
    | none => simp at h
    | some u =>
      cases u with
      | dat d => simp at h; subst h; exact .inl ⟨d, rfl, rfl⟩
      | own l => simp at h; subst h; exact .inr (.inl ⟨l, rfl, rfl⟩)
      | tok n =>
        simp only [peekN] at h
        by_cases c : n = TN
        · rw [if_pos c] at h
          subst c
          cases o with
          | none => simp at h
          | some fs => simp at h; subst h; exact .inr (.inr ⟨fs, rfl, rfl, rfl⟩)
        · simp [c] at h
      | lent l => simp at h
  | x :: r, i + 1, v, h => by
    have h2 : (peekN o r)[i]? = some (some v) := by
      cases x with
      | none => simpa using h
      | some u => cases u <;> simpa using h
    rcases peekN_get o h2 with ⟨d, e, z⟩ | ⟨l, e, z⟩ | ⟨fs, e1, e2, z⟩
    · exact .inl ⟨d, e, by simpa using z⟩
    · exact .inr (.inl ⟨l, e, by simpa using z⟩)
    · exact .inr (.inr ⟨fs, e1, e2, by simpa using z⟩)
theorem frz_fvs {F H F1 : Hp} (ff : ∀ b o, F b = some o → F1 b = some o) : ∀ {qs : List Addr} {vs : List V} {fs : List FV}, FvsAt K F H qs vs fs → (∀ b ∈ qs, F1 b = H b) → DpAll K F1 vs (frzG fs)
  | _, _, _, .nil, _ => .nil
  | _, _, _, .dat h t, q => .cons (dp_mono ff _ h) (frz_fvs ff t q)
  | _, _, _, .own h d t, q => .cons (Dp.lst (Rd.of ((q _ List.mem_cons_self).trans h)) (dps_mono ff _ d)) (frz_fvs ff t fun b hb => q b (List.mem_cons_of_mem _ hb))
theorem so_peekN {t : TE} {m : ME Unit} (h : SoundE (⟨WU K, mg, Wx⟩ : Ctx K) t m) : SoundE (cN W0 mg Wx) t (sPeekN m) := by
  classical
  intro a0 F0 H0 a g F H s r Q rp post
  let L : Addr → Prop := fun b => (∃ (i : Nat) (l : List PyData), r[i]? = some (some (.own l)) ∧ s[i]? = some (some (.ref b))) ∨ naIn a.2 b
  let F1 : Hp := fun b => if L b then H b else F b
  have own1 : ∀ b, L b → F b = none ∧ ∃ xs, H b = some (.lst xs) := fun b hb => by
    rcases hb with ⟨i, l, hr, hs⟩ | ⟨p, qs, e, hb⟩
    · obtain ⟨x, h1, q, xs, rfl, hq, _, fq, rq⟩ := rp.slot i _ hr
      rw [hs] at h1
      cases h1
      exact ⟨fq, xs, hq⟩
    · rcases rp.at_.2 with ⟨h1, h2⟩ | ⟨p', qs', fs, h1, h2, h3, h4⟩
      · rw [h1] at e; cases e
      · rw [h1] at e
        cases e
        exact h3.off b hb
  have F1l : ∀ b, L b → F1 b = H b := fun b hb => if_pos hb
  have F1n : ∀ b, ¬ L b → F1 b = F b := fun b hb => if_neg hb
  have ff1 : ∀ b o, F b = some o → F1 b = some o := fun b o z => by
    rw [F1n b fun hb => by rw [(own1 b hb).1] at z; cases z]
    exact z
  have sub1 : ∀ b o, F1 b = some o → H b = some o := fun b o z => by
    by_cases hb : L b
    · rw [F1l b hb] at z; exact z
    · rw [F1n b hb] at z; exact rp.sub b o z
  have rp1 : Rep (WU K) () F1 H () () F1 H s (peekN g.2 r) := by
    refine ⟨Ext.refl sub1, True.intro, by rw [peekN_len]; exact rp.len, fun i v hi => ?_, fun i l hi => ?_, fun i l p hi => ?_⟩
    · rcases peekN_get g.2 hi with ⟨d, rfl, z⟩ | ⟨l, rfl, z⟩ | ⟨fs, e1, rfl, z⟩
      · obtain ⟨x, h1, h2⟩ := rp.slot i _ z
        exact ⟨x, h1, dp_mono ff1 _ h2⟩
      · obtain ⟨x, h1, p, xs, rfl, hq, hd, fq, rq⟩ := rp.slot i _ z
        exact ⟨_, h1, Dp.lst (Rd.of ((F1l p (.inl ⟨i, l, z, h1⟩)).trans hq)) (dps_mono ff1 _ hd)⟩
      · obtain ⟨x, h1, p, hp, rfl⟩ := rp.slot i _ z
        rcases rp.at_.2 with ⟨h2, h3⟩ | ⟨p', qs', fs', h2, h3, h4, h5⟩
        · rw [h3] at e1; cases e1
        · rw [h3] at e1
          cases e1
          have hp' : a.2.map (·.1) = some p := hp
          rw [h2] at hp'
          cases hp'
          obtain ⟨xs, w1, w2⟩ := h4.lst
          exact ⟨_, h1, Dp.lst (Rd.of ((F1l p' (.inr ⟨p', qs', h2, List.mem_cons_self⟩)).trans w1)) (frz_fvs ff1 w2 fun b hb => F1l b (.inr ⟨p', qs', h2, List.mem_cons_of_mem _ hb⟩))⟩
    · rcases peekN_get g.2 hi with ⟨d, e, z⟩ | ⟨l, e, z⟩ | ⟨fs, e1, e, z⟩ <;> cases e
    · rcases peekN_get g.2 hi with ⟨d, e, z⟩ | ⟨l, e, z⟩ | ⟨fs, e1, e, z⟩ <;> cases e
  have fin : ∀ (F' H' : Hp) (u : Unit), Ext (WU K) () F1 H u F' H' → ∃ F3 : Hp, Ext (WN W0) a F H a F3 H' ∧ (WN W0).at_ a g F3 H' ∧ (∀ b o, F' b = some o → (∀ xs, o ≠ .lst xs) → F3 b = some o) ∧ ∀ b, ¬ L b → F3 b = F' b := by
    intro F' H' u e
    let F3 : Hp := fun b => if L b then none else F' b
    have F3l : ∀ b, L b → F3 b = none := fun b hb => if_pos hb
    have F3n : ∀ b, ¬ L b → F3 b = F' b := fun b hb => if_neg hb
    have same : ∀ b, H b ≠ none → F b = none → F3 b = none ∧ H' b = H b := fun b z f => by
      by_cases hb : L b
      · obtain ⟨xs, hx⟩ := (own1 b hb).2
        have h2 := e.ff b _ ((F1l b hb).trans hx)
        exact ⟨F3l b hb, (e.fh b _ h2).trans hx.symm⟩
      · obtain ⟨p1, p2, _⟩ := e.st b z ((F1n b hb).trans f) (fun q => q.elim)
        exact ⟨(F3n b hb).trans p1, p2⟩
    have ff3 : ∀ b o, F b = some o → F3 b = some o := fun b o z => by
      have nb : ¬ L b := fun hb => by rw [(own1 b hb).1] at z; cases z
      rw [F3n b nb]
      exact e.ff b o (ff1 b o z)
    refine ⟨F3, ⟨ff3, fun b o z => ?_, fun b z f n => ⟨(same b z f).1, (same b z f).2, n⟩, fun b z f n => (same b z f).1, e.al, fun _ _ z => z⟩, ?_, fun b o z w => ?_, F3n⟩
    · by_cases hb : L b
      · rw [F3l b hb] at z; cases z
      · rw [F3n b hb] at z; exact e.fh b o z
    · exact (WN W0).keep rp.at_ ff3 fun b hb => same b ((WN W0).off rp.at_ hb).2 ((WN W0).off rp.at_ hb).1
    · by_cases hb : L b
      · obtain ⟨xs, hx⟩ := (own1 b hb).2
        have h2 := e.ff b _ ((F1l b hb).trans hx)
        rw [h2] at z
        cases z
        exact absurd rfl (w xs)
      · rw [F3n b hb]; exact z
  refine h _ _ _ _ _ _ _ _ _ _ rp1 ?_
  unfold sPeekN at post
  cases hm : m (peekN g.2 r) () with
  | no => rw [hm] at post; exact post
  | er e0 g2 =>
    rw [hm] at post
    intro u F' H' C' d e t' i
    obtain ⟨F3, ext, ob, _⟩ := fin F' H' u e
    exact post a F3 H' C' d ext ob i
  | ok v g2 =>
    rw [hm] at post
    intro u F' H' x e t' i n
    obtain ⟨F3, ext, ob, down, F3n⟩ := fin F' H' u e
    cases v with
    | dat d =>
      by_cases z : flt d = true
      · simp only [z, if_true] at post
        exact post a F3 H' x ext ob (dp_flt down d z i) trivial
      · simp only [z] at post; exact post.elim
    | own l =>
      by_cases z : flts l = true
      · simp only [z, if_true] at post
        obtain ⟨q, xs, rfl, hq, hd, fq, _⟩ := i
        obtain ⟨q', eq, nq⟩ := n
        cases eq
        have nL : ¬ L q := fun hb => by
          obtain ⟨xs, hx⟩ := (own1 q hb).2
          rw [nq] at hx; cases hx
        exact post a F3 H' (.ref q) ext ob ⟨q, xs, rfl, hq, dp_flt.dps_flt down l z hd, (F3n q nL).trans fq, fun w => ((WN W0).off rp.at_ w).2 nq⟩ ⟨q, rfl, nq⟩
      · simp only [z] at post; exact post.elim
    | tok n => exact post.elim
    | lent l => exact post.elim
/-! ### made -/
theorem fvs_of {a : (WN W0).A} {F H H0 : Hp} : ∀ {xs : List V} {vs : List Vl} {fs : List FV}, AreV (WN W0) a F H H0 xs vs → toFV vs = some fs → ∃ qs, FvsAt K F H qs xs fs ∧ qs.Nodup ∧ ∀ q ∈ qs, F q = none ∧ H0 q = none ∧ H q ≠ none ∧ ¬ (WN W0).reg a q ∧ ∃ (j : Nat) (m : List PyData), vs[j]? = some (.own m) ∧ xs[j]? = some (.ref q)
  | _, _, fs, .nil, h => by cases h; exact ⟨[], .nil, List.nodup_nil, fun q hq => absurd hq List.not_mem_nil⟩
  | _, _, fs, .cons (v := v) (vs := vs) i n d t, h => by
    cases v with
    | tok k => simp at h
    | lent l => simp at h
    | dat e =>
      simp only [toFV] at h
      cases h2 : toFV vs with
      | none => rw [h2] at h; cases h
      | some gs =>
        rw [h2] at h
        cases h
        obtain ⟨qs, w1, w2, w3⟩ := fvs_of t h2
        refine ⟨qs, .dat i w1, w2, fun q hq => ?_⟩
        obtain ⟨z1, z2, z3, z4, j, m, z5, z6⟩ := w3 q hq
        exact ⟨z1, z2, z3, z4, j + 1, m, by simpa using z5, by simpa using z6⟩
    | own l =>
      simp only [toFV] at h
      cases h2 : toFV vs with
      | none => rw [h2] at h; cases h
      | some gs =>
        rw [h2] at h
        cases h
        obtain ⟨qs, w1, w2, w3⟩ := fvs_of t h2
        obtain ⟨p, ys, rfl, hp, hd, fp, rp⟩ := i
        obtain ⟨p', e, np⟩ := n
        cases e
        refine ⟨p :: qs, .own hp hd w1, List.nodup_cons.mpr ⟨fun z => ?_, w2⟩, fun q hq => ?_⟩
        · obtain ⟨_, _, _, _, j, m, z5, z6⟩ := w3 p z
          exact d p l rfl rfl j m z5 z6
        · rcases List.mem_cons.mp hq with rfl | hq
          · exact ⟨fp, np, by rw [hp]; simp, rp, 0, l, rfl, rfl⟩
          · obtain ⟨z1, z2, z3, z4, j, m, z5, z6⟩ := w3 q hq
            exact ⟨z1, z2, z3, z4, j + 1, m, by simpa using z5, by simpa using z6⟩
/-- the thing is new -/
theorem thing_new {a a1 : (WN W0).A} {g1 : (WN W0).G} {F H F1 H1 : Hp} {p : Addr} {qs : List Addr} {xs : List V} {fs : List FV} (e1 : Ext (WN W0) a F H a1 F1 H1) (t1 : (WN W0).at_ a1 g1 F1 H1) (g0 : g1.2 = none) (hp : H1 p = none) (w : FvsAt K F1 H1 qs xs fs) (nd : qs.Nodup)
    (hq : ∀ q ∈ qs, F1 q = none ∧ H q = none ∧ H1 q ≠ none ∧ ¬ (WN W0).reg a1 q) : Ext (WN W0) a F H (a1.1, some (p, qs)) F1 (upd H1 p (.lst xs)) ∧ (WN W0).at_ (a1.1, some (p, qs)) (g1.1, some fs) F1 (upd H1 p (.lst xs)) := by
  have a0 : a1.2 = none := by
    rcases t1.2 with ⟨h1, _⟩ | ⟨_, _, _, _, h2, _⟩
    · exact h1
    · rw [g0] at h2; cases h2
  have fp : F1 p = none := by
    cases z : F1 p with
    | none => rfl
    | some o => rw [e1.fh p o z] at hp; cases hp
  have hpH : H p = none := Classical.byContradiction fun z => e1.al p z hp
  have npq : p ∉ qs := fun z => (hq p z).2.2.1 hp
  refine ⟨⟨e1.ff, fun b o z => ?_, fun b z f n => ?_, fun b z f n => e1.rg b z f n, fun b z => ?_, fun i b z => ?_⟩, ?_, .inr ⟨p, qs, fs, rfl, rfl, ⟨⟨xs, upd_same, w.mono (fun _ _ z => z) fun b hb => upd_ne fun e => npq (e ▸ hb)⟩, List.nodup_cons.mpr ⟨npq, nd⟩, fun b hb => ?_⟩, fun b hb => ?_⟩⟩
  · rw [upd_ne (ne_of_none z fp)]; exact e1.fh b o z
  · have n1 : b ≠ p := fun e => by subst e; exact z hpH
    obtain ⟨z1, z2, z3⟩ := e1.st b z f n
    refine ⟨z1, by rw [upd_ne n1]; exact z2, fun q => ?_⟩
    rcases q with q | ⟨p', qs', e, hb⟩
    · exact z3 (.inl q)
    · cases e
      rcases List.mem_cons.mp hb with rfl | hb
      · exact n1 rfl
      · exact z (hq b hb).2.1
  · by_cases c : b = p
    · subst c; rw [upd_same]; simp
    · rw [upd_ne c]; exact e1.al b z
  · have z2 := e1.tk i b z
    have z3 : (if i = TN then a1.2.map (·.1) else W0.tok a1.1 i) = some b := z2
    show (if i = TN then some p else W0.tok a1.1 i) = some b
    by_cases c : i = TN
    · rw [if_pos c, a0] at z3; cases z3
    · rw [if_neg c] at z3 ⊢; exact z3
  · exact W0.keep t1.1 (fun _ _ z => z) fun b hb => ⟨(W0.off t1.1 hb).1, upd_ne fun e => (W0.off t1.1 hb).2 (e ▸ hp)⟩
  · rcases List.mem_cons.mp hb with rfl | hb
    · exact fp
    · exact (hq b hb).1
  · rcases List.mem_cons.mp hb with rfl | hb
    · exact fun z => (W0.off t1.1 z).2 hp
    · exact fun z => (hq b hb).2.2.2 (.inl z)
theorem fvs_len {F H : Hp} {qs : List Addr} {xs : List V} {fs : List FV} (w : FvsAt K F H qs xs fs) : xs.length = fs.length := w.len
theorem so_nlst {ta : TA} {ma : MA (GN W0.G)} (ha : SoundA (cN W0 mg Wx) ta ma) : SoundE (cN W0 mg Wx) (tLst ta) (sNLst ma) := by
  intro a0 F0 H0 a g F H s r Q rp post
  refine ha _ _ _ _ _ _ _ _ _ _ rp ?_
  unfold sNLst at post
  cases h : ma r g with
  | no => rw [h] at post; exact post
  | er e g1 => rw [h] at post; exact post
  | ok vs g1 =>
    rw [h] at post
    simp only [R.bind_ok] at post
    intro a1 F1 H1 xs e1 t1 i1
    obtain ⟨g11, g12⟩ := g1
    cases g12 with
    | some o => exact post.elim
    | none =>
      cases h2 : toFV vs with
      | none => rw [h2] at post; exact post.elim
      | some fs =>
        rw [h2] at post
        simp only at post
        obtain ⟨qs, w1, w2, w3⟩ := fvs_of i1 h2
        by_cases hl : fs.length ≤ 100000
        · rw [if_pos hl] at post
          refine ⟨line_of (by rw [w1.len]; exact hl), fun p hp => ?_⟩
          obtain ⟨z1, z2⟩ := thing_new e1 t1 rfl hp w1 w2 fun q hq => let ⟨y1, y2, y3, y4, _⟩ := w3 q hq; ⟨y1, y2, y3, y4⟩
          exact post _ F1 _ (.ref p) z1 z2 ⟨p, rfl, rfl⟩ trivial
        · rw [if_neg hl] at post; exact post.elim
end
end CW
/-! CwNest3: the thing by a comprehension; its lists changed; calls of defs of the world below. -/
namespace CW
open PySem L2
section
variable {K : FR} {W0 : Wld K} {mg : Str → Option Value} {Wx : WX}
theorem so_nlc {wi : TI} {it : MI (GN W0.G)} {tg : TG} {mg2 : MG} {sl : List Nat} {te : TE} {me : ME (GN W0.G)} {vs : List Nat} (hi : SoundI (cN W0 mg Wx) wi it) (hg : SoundG (cN W0 mg Wx).calm tg mg2 sl) (hsl : ∀ i ∈ sl, i ∈ vs) {tt : TT} (ht : SoundT (cN W0 mg Wx).calm tt sYes) (he : SoundE (cN W0 mg Wx).calm te me) :
    SoundE (cN W0 mg Wx) (tLc wi tg tt te vs) (sNLc it mg2 me vs) := by
  intro a0 F0 H0 a g F H s r Q rp post
  refine hi _ _ _ _ _ _ _ _ _ _ rp ?_
  unfold sNLc at post
  cases h : it r g with
  | no => rw [h] at post; exact post
  | er e g1 => rw [h] at post; exact post
  | ok items g1 =>
    rw [h] at post
    simp only [R.bind_ok] at post
    have hlen : items.length ≤ 100000 := Classical.byContradiction fun hn => by
      rw [if_neg hn] at post
      exact post
    rw [if_pos hlen] at post
    intro a1 F1 H1 J e1 t1 wk Dl hD
    obtain ⟨G, Y, w, hG, hY⟩ := wk
    cases hgo : lcGoN (CW.wipe r vs) mg2 me items [] g1 with
    | no => rw [hgo] at post; exact post.elim
    | er e g2 => rw [hgo] at post; exact post.elim
    | ok res g2 =>
      rw [hgo] at post
      obtain ⟨g21, g22⟩ := g2
      cases g22 with
      | some o => exact post.elim
      | none =>
      simp only at post
      have rD : ¬ (WN W0).reg a1 Dl := fun q => ((WN W0).off t1 q).2 hD
      have fD : F1 Dl = none := by
        cases q : F1 Dl with
        | none => rfl
        | some o => rw [e1.fh Dl o q] at hD; cases hD
      refine lc_it w (fun i H2 => ∃ (a2 : (WN W0).A) (g' : (WN W0).G) (F2 : Hp) (xs : List V) (acc : List FV) (qs : List Addr), Ext (WN W0) a F H a2 F2 H2 ∧ (WN W0).at_ a2 g' F2 H2 ∧ (∀ b o, F1 b = some o → F2 b = some o) ∧ F2 Dl = none ∧ ¬ (WN W0).reg a2 Dl ∧ H2 Dl = some (.lst xs) ∧ FvsAt K F2 H2 qs xs acc ∧ (Dl :: qs).Nodup ∧
        (∀ q ∈ qs, F2 q = none ∧ H q = none ∧ H2 q ≠ none ∧ ¬ (WN W0).reg a2 q) ∧ acc.length ≤ i ∧ lcGoN (CW.wipe r vs) mg2 me (items.drop i) acc g' = .ok res (g21, none)) ?_ ?_ ?_ ?_
      · have e3 := PExt.own (o := .lst []) e1.fh hD
        exact ⟨a1, g1, F1, [], [], [], e1.trans (Ext.of e1.fh e3), at_of t1 e3, fun _ _ z => z, fD, rD, upd_same, .nil, List.nodup_cons.mpr ⟨List.not_mem_nil, List.nodup_nil⟩, fun q hq => absurd hq List.not_mem_nil, Nat.zero_le _, hgo⟩
      · rintro i H2 hi ⟨a2, g', F2, xs, acc, qs, e2, _, f2, _⟩
        exact hG F2 H2 f2 e2.fh
      · rintro i x H2 H3 hi ⟨a2, g', F2, xs, acc, qs, e2, t2, f2, fD2, rD2, hD2, hd, nd, hq, hl, go⟩ y
        obtain ⟨F3, d, e3, hit, hx⟩ := hY i F2 H2 x H3 f2 e2.fh y hi
        have hdrop : items.drop i = d :: items.drop (i + 1) := by
          rw [List.drop_eq_getElem_cons hi]
          rw [List.getElem?_eq_getElem hi] at hit
          rw [Option.some.inj hit]
        rw [hdrop] at go
        unfold lcGoN at go
        have e23 := e2.trans (Ext.of e2.fh e3)
        have t3 := at_of t2 e3
        have hD3 : F3 Dl = none ∧ H3 Dl = some (.lst xs) := by
          obtain ⟨q1, q2⟩ := e3.st Dl (by rw [hD2]; simp) fD2
          exact ⟨q1, q2.trans hD2⟩
        have hq3 : ∀ q ∈ qs, F3 q = none ∧ H3 q = H2 q ∧ H3 q ≠ none := fun q z => by
          obtain ⟨w1, w2, w3, w4⟩ := hq q z
          obtain ⟨q1, q2⟩ := e3.st q w3 w1
          exact ⟨q1, q2, by rw [q2]; exact w3⟩
        have hd3 : FvsAt K F3 H3 qs xs acc := hd.mono e3.ff fun q z => (hq3 q z).2.1
        have rp3 := (rp.step e23 t3).wipe vs
        refine hg _ _ _ _ _ _ _ _ _ _ (.dat d) _ rp3 hx True.intro ?_
        cases htg : mg2 (.dat d) (CW.wipe r vs) with
        | none => rw [htg] at go; cases go
        | some r' =>
          rw [htg] at go
          simp only at go ⊢
          intro s' rp' hl' hk'
          refine ⟨wipe_again hl' (fun j hj => hk' j fun z => hj (hsl j z)), ?_⟩
          refine ht _ _ _ _ _ _ _ _ _ _ rp' ?_
          intro a4 F4 H4 e4 t4
          refine iteT ?_
          refine he _ _ _ _ _ _ _ _ _ _ (rp'.step e4 t4) ?_
          cases hme : me r' g' with
          | no => rw [hme] at go; cases go
          | er e g4 => rw [hme] at go; cases go
          | ok v g4 =>
            rw [hme] at go
            cases v with
            | dat d => cases go
            | tok d => cases go
            | lent d => cases go
            | own l =>
              simp only at go
              intro a5 F5 H5 z e5 t5 i5 n5
              have e35 := e4.trans e5
              obtain ⟨q1, q2, q3⟩ := e35.st Dl (by rw [hD3.2]; simp) hD3.1 rD2
              have keepQ : ∀ q ∈ qs, F5 q = none ∧ H5 q = H3 q ∧ ¬ (WN W0).reg a5 q := fun q z => by
                obtain ⟨w1, w2, w3, w4⟩ := hq q z
                obtain ⟨y1, y2, y3⟩ := hq3 q z
                exact e35.st q y3 y1 w4
              obtain ⟨qn, ys, rfl, hqn, hdn, fqn, rqn⟩ := i5
              obtain ⟨q', eq, nq⟩ := n5
              cases eq
              have hDn : H Dl = none := Classical.byContradiction fun z => e1.al Dl z hD
              have nqD : qn ≠ Dl := fun e => by
                rw [e] at nq
                exact e4.al Dl (by rw [hD3.2]; simp) nq
              have nqQ : qn ∉ qs := fun z => e4.al qn (hq3 qn z).2.2 nq
              have hqH : H qn = none := Classical.byContradiction fun z => (e23.trans e4).al qn z nq
              have e7 : Ext (WN W0) a F H a5 F5 H5 := e23.trans e35
              refine ⟨xs, q2.trans hD3.2, ?_, a5, g4, F5, xs ++ [.ref qn], acc ++ [.own l], qs ++ [qn], ?_, ?_, fun b o z => e35.ff b o (e3.ff b o (f2 b o z)), q1, q3, upd_same, ?_, ?_, fun q hz => ?_, by simp; omega, go⟩
              · rw [hd3.len]
                exact Nat.lt_of_le_of_lt (Nat.le_trans (Nat.le_trans hl (Nat.le_of_lt hi)) hlen) (by decide)
              · refine ⟨e7.ff, fun b o z => ?_, fun b z f n => ?_, e7.rg, fun b z => ?_, e7.tk⟩
                · by_cases eb : b = Dl
                  · subst eb
                    rw [q1] at z
                    cases z
                  · rw [upd_ne eb]
                    exact e7.fh b o z
                · have eb : b ≠ Dl := fun eb => by subst eb; exact z hDn
                  obtain ⟨z1, z2, z3⟩ := e7.st b z f n
                  exact ⟨z1, by rw [upd_ne eb]; exact z2, z3⟩
                · by_cases eb : b = Dl
                  · subst eb
                    rw [upd_same]
                    simp
                  · rw [upd_ne eb]
                    exact e7.al b z
              · exact (WN W0).keep t5 (fun _ _ z => z) fun b z => ⟨((WN W0).off t5 z).1, upd_ne fun eb => by subst eb; exact q3 z⟩
              · have nD : ∀ q ∈ qs, q ≠ Dl := fun q z e => (List.nodup_cons.mp nd).1 (e ▸ z)
                have hd5 : FvsAt K F5 (upd H5 Dl (.lst (xs ++ [V.ref qn]))) qs xs acc := hd3.mono e35.ff fun q z => by
                  rw [upd_ne (nD q z)]; exact (keepQ q z).2.1
                exact hd5.appO (by rw [upd_ne nqD]; exact hqn) hdn
              · obtain ⟨n1, n2⟩ := List.nodup_cons.mp nd
                refine List.nodup_cons.mpr ⟨fun z => ?_, ?_⟩
                · rcases List.mem_append.mp z with z | z
                  · exact n1 z
                  · exact nqD (List.mem_singleton.mp z).symm
                · rw [List.nodup_append]
                  refine ⟨n2, by simp, fun x hx y hy => ?_⟩
                  rw [List.mem_singleton.mp hy]
                  exact fun e => nqQ (e ▸ hx)
              · rcases List.mem_append.mp hz with hz | hz
                · have nD : q ≠ Dl := fun e => (List.nodup_cons.mp nd).1 (e ▸ hz)
                  obtain ⟨y1, y2, y3⟩ := keepQ q hz
                  exact ⟨y1, (hq q hz).2.1, by rw [upd_ne nD, y2]; exact (hq3 q hz).2.2, y3⟩
                · rw [List.mem_singleton.mp hz]
                  exact ⟨fqn, hqH, by rw [upd_ne nqD, hqn]; simp, rqn⟩
      · rintro H2 ⟨a2, g', F2, xs, acc, qs, e2, t2, f2, fD2, rD2, hD2, hd, nd, hq, hl, go⟩
        rw [List.drop_length] at go
        unfold lcGoN at go
        cases go
        have a0 : a2.2 = none := by
          rcases t2.2 with ⟨h1, _⟩ | ⟨_, _, _, _, h2, _⟩
          · exact h1
          · cases h2
        have hDn : H Dl = none := Classical.byContradiction fun z => e1.al Dl z hD
        obtain ⟨n1, n2⟩ := List.nodup_cons.mp nd
        refine post (a2.1, some (Dl, qs)) F2 H2 (.ref Dl) ⟨e2.ff, e2.fh, fun b z f n => ?_, fun b z f n => e2.rg b z f n, e2.al, fun i b z => ?_⟩ ⟨t2.1, .inr ⟨Dl, qs, res, rfl, rfl, ⟨⟨xs, hD2, hd⟩, nd, fun b hb => ?_⟩, fun b hb => ?_⟩⟩ ⟨Dl, rfl, rfl⟩ trivial
        · obtain ⟨z1, z2, z3⟩ := e2.st b z f n
          refine ⟨z1, z2, fun q => ?_⟩
          rcases q with q | ⟨p', qs', e, hb⟩
          · exact z3 (.inl q)
          · cases e
            rcases List.mem_cons.mp hb with rfl | hb
            · exact z hDn
            · exact z (hq b hb).2.1
        · have z2 := e2.tk i b z
          have z3 : (if i = TN then a2.2.map (·.1) else W0.tok a2.1 i) = some b := z2
          show (if i = TN then some Dl else W0.tok a2.1 i) = some b
          by_cases c : i = TN
          · rw [if_pos c, a0] at z3; cases z3
          · rw [if_neg c] at z3 ⊢; exact z3
        · rcases List.mem_cons.mp hb with rfl | hb
          · exact fD2
          · exact (hq b hb).1
        · rcases List.mem_cons.mp hb with rfl | hb
          · exact fun z => rD2 (.inl z)
          · exact fun z => (hq b hb).2.2.2 (.inl z)
/-! ### changed -/
/-- one of its lists becomes another one -/
theorem thing_chg {a0 : (WN W0).A} {F0 H0 F H : Hp} {s : L2.St} {r : Env} {a : (WN W0).A} {g : (WN W0).G} {p q : Addr} {qs : List Addr} {xs xs' : List V} {fs : List FV} {n : Nat} {l l' : List PyData} (rp : Rep (WN W0) a0 F0 H0 a g F H s r) (ha : a.2 = some (p, qs)) (hg : g.2 = some fs) (hp : H p = some (.lst xs)) (w : FvsAt K F H qs xs fs)
    (hv : xs[n]? = some (.ref q)) (hq : q ∈ qs) (hl : fs[n]? = some (.own l)) (hd : DpAll K F xs' l') : Rep (WN W0) a0 F0 H0 a (g.1, some (fs.set n (.own l'))) F (upd H q (.lst xs')) s r := by
  have T : NAt K F H p qs fs ∧ ∀ b ∈ p :: qs, ¬ W0.reg a.1 b := by
    rcases rp.at_.2 with ⟨h1, _⟩ | ⟨p', qs', fs', h1, h2, h3, h4⟩
    · rw [ha] at h1; cases h1
    · rw [ha] at h1; cases h1
      rw [hg] at h2; cases h2
      exact ⟨h3, h4⟩
  obtain ⟨⟨tl, nd, fn⟩, nr⟩ := T
  obtain ⟨n1, n2⟩ := List.nodup_cons.mp nd
  have fq : F q = none := fn q (List.mem_cons_of_mem _ hq)
  have rq : (WN W0).reg a q := .inr ⟨p, qs, ha, List.mem_cons_of_mem _ hq⟩
  have pq : p ≠ q := fun e => n1 (e ▸ hq)
  refine ⟨⟨rp.ext.ff, fun b o z => ?_, fun b z f n => ?_, rp.ext.rg, fun b z => ?_, rp.ext.tk⟩, ⟨?_, .inr ⟨p, qs, _, ha, rfl, ⟨⟨xs, by rw [upd_ne pq]; exact hp, w.chg hd n n2 hv hq ⟨l, hl⟩⟩, nd, fn⟩, nr⟩⟩, rp.len, fun i v hi => ?_, rp.nol, rp.own⟩
  · rw [upd_ne (ne_of_none z fq)]; exact rp.ext.fh b o z
  · have nb : b ≠ q := fun e => by subst e; exact (rp.ext.st b z f n).2.2 rq
    rw [upd_ne nb]
    exact rp.ext.st b z f n
  · by_cases c : b = q
    · subst c; rw [upd_same]; simp
    · rw [upd_ne c]; exact rp.ext.al b z
  · exact W0.keep rp.at_.1 (fun _ _ z => z) fun b hb => ⟨(W0.off rp.at_.1 hb).1, upd_ne fun e => by subst e; exact nr b (List.mem_cons_of_mem _ hq) hb⟩
  · obtain ⟨x, h1, h2⟩ := rp.slot i v hi
    refine ⟨x, h1, ?_⟩
    cases v with
    | dat d => exact h2
    | tok k => exact h2
    | lent m => exact absurd hi (rp.nol i m)
    | own m =>
      obtain ⟨b, ys, e, hb, hd2, fb, rb⟩ := h2
      have nb : b ≠ q := fun e => by subst e; exact rb rq
      exact ⟨b, ys, e, by rw [upd_ne nb]; exact hb, hd2, fb, rb⟩
theorem thing_at {a : (WN W0).A} {g : (WN W0).G} {F H : Hp} {fs : List FV} (t : (WN W0).at_ a g F H) (hg : g.2 = some fs) : ∃ p qs xs, a.2 = some (p, qs) ∧ H p = some (.lst xs) ∧ FvsAt K F H qs xs fs ∧ F p = none := by
  rcases t.2 with ⟨_, h2⟩ | ⟨p', qs', fs', h1, h2, h3, h4⟩
  · rw [hg] at h2; cases h2
  · rw [hg] at h2; cases h2
    obtain ⟨xs, z1, z2⟩ := h3.lst
    exact ⟨p', qs', xs, h1, z1, z2, h3.fn _ List.mem_cons_self⟩
theorem tok_thing {a : (WN W0).A} {F H : Hp} {x : V} {p : Addr} {qs : List Addr} (i : IsV (WN W0) a F H x (.tok TN)) (ha : a.2 = some (p, qs)) : x = .ref p := by
  obtain ⟨p', z, e⟩ := i
  have z' : a.2.map (·.1) = some p' := z
  rw [ha] at z'
  cases z'
  exact e
theorem atI_lib0 {xs : List V} {n k : Nat} {j : Int} {v : V} (hn : xs.length = n) (hj : atN n j = some k) (hv : xs[k]? = some v) : L2.atI xs j = some v := by
  have e : L2.atI xs j = (ixN xs.length j).bind fun i => xs[i]? := rfl
  rw [e, hn]
  rw [atN_eq] at hj
  rw [hj]
  exact hv
theorem ss_nset {i j k : Nat} {t3 : TE} {m3 : ME (GN W0.G)} (h3 : SoundE (cN W0 mg Wx) t3 m3) : SoundS (cN W0 mg Wx) (tAsg t3 (gSub (tOp (rIx K) (tVar i) (tVar j)) (tVar k) rSetL)) (sNSet i j k m3) := by
  intro a0 F0 H0 a g F H s r D rp post
  unfold sNSet at post
  split at post
  · rename_i k0 hi
    by_cases ck : k0 = TN
    · rw [if_pos ck] at post
      subst ck
      refine h3 _ _ _ _ _ _ _ _ _ _ rp (so_out (o := .no) rp post fun v g' a' F' H' y hx e rp' iv n po => ?_)
      split at po
      · rename_i d j1 j2 fs hj hk hg
        split at po
        · rename_i n1 e1
          split at po
          · rename_i l hl
            split at po
            · rename_i n2 e2
              obtain ⟨x, hs, hv⟩ := rp'.slot i _ hi
              obtain ⟨p, qs, xs, ha, hp, w, fp⟩ := thing_at rp'.at_ hg
              have ex := tok_thing hv ha
              subst ex
              obtain ⟨xj, hsj, hvj⟩ := rp'.slot j _ hj
              obtain ⟨xk, hsk, hvk⟩ := rp'.slot k _ hk
              have ej := dp_int hvj
              have ek := dp_int hvk
              subst ej ek
              obtain ⟨q, ys, hq1, hq2, hq3, hq4⟩ := w.getO hl
              refine ⟨_, hs, _, hsj, .inl ⟨p, xs, j1, .ref q, rfl, rfl, SqL.of hp, atI_lib0 w.len e1 hq1, ?_⟩⟩
              refine ⟨_, hsk, q, ys, j2, n2, rfl, rfl, hq3, by rw [dps_len hq4]; exact e2, ?_⟩
              exact po a' F' _ s (thing_chg rp' ha hg hp w hq1 hq2 hl (dps_set iv n2 hq4)) fun b o z => z
            · exact po.elim
          · exact po.elim
        · exact po.elim
      · exact po.elim
    · rw [if_neg ck] at post; exact post.elim
  · exact post.elim
theorem ss_nclr {i : Nat} {c : Int} : SoundS (cN W0 mg Wx) (tDrop (tBM0 K "list" rClear (tOp (rIx K) (tVar i) (tC (.int c))))) (sNClr i c) := by
  intro a0 F0 H0 a g F H s r D rp post
  unfold sNClr at post
  split at post
  · rename_i k0 hi
    by_cases ck : k0 = TN
    · rw [if_pos ck] at post
      subst ck
      split at post
      · rename_i fs hg
        split at post
        · rename_i n1 e1
          split at post
          · rename_i l hl
            obtain ⟨x, hs, hv⟩ := rp.slot i _ hi
            obtain ⟨p, qs, xs, ha, hp, w, fp⟩ := thing_at rp.at_ hg
            have ex := tok_thing hv ha
            subst ex
            obtain ⟨q, ys, hq1, hq2, hq3, hq4⟩ := w.getO hl
            refine ⟨_, hs, .inl ⟨p, xs, c, .ref q, rfl, rfl, SqL.of hp, atI_lib0 w.len e1 hq1, ?_⟩⟩
            refine ⟨.inl ⟨rfl, ys, SqL.of hq3⟩, q, ys, rfl, rfl, hq3, ?_⟩
            exact post a F _ s (thing_chg rp ha hg hp w hq1 hq2 hl .nil) fun b o z => z
          · exact post.elim
        · exact post.elim
      · exact post.elim
    · rw [if_neg ck] at post; exact post.elim
  · exact post.elim
/-! ### a def of the world below -/
theorem so_callTN {n0 n : Nat} {f : List PyData → W0.G → R Vl W0.G} {ta : TA} {ma : MA (GN W0.G)} (h01 : n0 ≠ TN) (hn : ∀ ds g, ds.length + 1 ≠ n → f ds g = .no) (ha : SoundA (cN W0 mg Wx) ta ma) :
    SoundE (cN W0 mg Wx) (tCallSD (spT W0 mg n0 n f) [] (fun s => WE Wx s) ta) (sCallTN n0 f ma) := by
  intro a0 F0 H0 a g F H s r Q rp post
  refine ha _ _ _ _ _ _ _ _ _ _ rp ?_
  unfold sCallTN at post
  cases h : ma r g with
  | no => rw [h] at post; exact post
  | er e g1 => rw [h] at post; exact post
  | ok vs g1 =>
    rw [h] at post
    simp only [R.bind_ok] at post
    intro a1 F1 H1 xs e1 t1 i1
    cases i1 with
    | nil => exact post.elim
    | cons iv nv dv tv =>
      rename_i x xs v vs
      cases v with
      | tok k =>
        simp only at post
        by_cases hk : k = n0
        · subst hk
          rw [if_pos rfl] at post
          obtain ⟨p, hp, rfl⟩ := iv
          have hp0 : W0.tok a1.1 k = some p := by
            have z : (if k = TN then a1.2.map (·.1) else W0.tok a1.1 k) = some p := hp
            rwa [if_neg h01] at z
          cases h2 : frzAll vs with
          | none => rw [h2] at post; exact post.elim
          | some ds =>
            rw [h2] at post
            simp only at post
            have hd := frz_dps (c := cN W0 mg Wx) tv h2
            have e2 := letGo_ext (c := cN W0 mg Wx) e1
            have t2 := letGo_at (c := cN W0 mg Wx) e1 t1
            generalize letGo (((cN W0 mg Wx).W.reg a1)) H F1 H1 = F2 at hd e2 t2
            have thn : ∀ b, naIn a1.2 b → H1 b ≠ none := fun b hb => (((WN W0).off t2 (.inr hb)).2)
            refine ⟨?_, a1.1, g1.1, F2, p, xs, ds, by rw [List.append_nil], hp0, e2.fh, t2.1, hd, ?_⟩
            · rw [List.append_nil, List.length_cons, dps_len hd]
              refine Classical.byContradiction fun z => ?_
              rw [hn ds g1.1 z] at post
              exact post
            · cases hf : f ds g1.1 with
              | no => rw [hf] at post; exact post.elim
              | er e g2 =>
                rw [hf] at post
                intro a' F' H' C d e3 t3 i
                obtain ⟨z1, z2⟩ := ext_up t2 e3 t3
                exact post (a', a1.2) F' H' C d (e2.trans z1) z2 i
              | ok v g2 =>
                rw [hf] at post
                intro a' F' H' x e3 t3 i n3
                obtain ⟨z1, z2⟩ := ext_up t2 e3 t3
                cases v with
                | dat d => exact post (a', a1.2) F' H' x (e2.trans z1) z2 i (n3.back e2.al)
                | tok d => exact post.elim
                | lent d => exact post.elim
                | own l =>
                  obtain ⟨q, ys, rfl, hq, hd2, fq, rq⟩ := i
                  obtain ⟨q', eq, nq⟩ := n3
                  cases eq
                  exact post (a', a1.2) F' H' (.ref q) (e2.trans z1) z2 ⟨q, ys, rfl, hq, hd2, fq, fun z => z.elim rq fun z => thn q z nq⟩ ⟨q, rfl, Classical.byContradiction fun z => e2.al q z nq⟩
        · rw [if_neg hk] at post; exact post.elim
      | dat d => exact post.elim
      | own d => exact post.elim
      | lent d => exact post.elim
theorem tok_TN {W : Wld K} (h : ∀ (a : W.A) (k : Nat) (p : Addr), W.tok a k = some p → k = 0 ∨ k = 1) (a : W.A) : W.tok a TN = none := by
  cases e : W.tok a TN with
  | none => rfl
  | some p =>
    rcases h a _ p e with z | z
    · exact absurd z (by decide)
    · exact absurd z (by decide)
end
end CW
/-! CwTell5: isinstance of the refusal at hand and a built-in class. -/
namespace CW
open PySem PySem.Spec PyProof.Rows L2 LamX
section
variable {K : FR} {c : Ctx K}
theorem sr_mulL : SoundR c (rMulA K) oMulL := by
  intro a g F H x y u v w Q sub t iu iv h k
  unfold oMulL at h
  split at h
  · rename_i l j
    split at h
    · rename_i hs
      cases h
      obtain ⟨p, xs, rfl, hp, hd, _⟩ := iu
      have hb := hs.2
      rw [BIGW_eq] at hb
      exact .inr (.inr ⟨p, j, xs, rfl, dp_int iv, hp, by omega, by omega, line_of (by rw [dps_len hd]; exact hs.1), fun z hz => own_new sub t (dps_rep hd _) hz k⟩)
    · cases h
  · cases h
end
section
variable {K : FR} {mg : Str → Option Value} {Wx : WX}
theorem so_isET {ea D : Addr} {T : String} {b : Bool} (i : Nat) (h : PySem.W.kitOne K (.ref D) (.type T) = some b) : SoundE (⟨WEx K ea, mg, Wx⟩ : Ctx K) (tCB (rIsE K D ea) (tCons (tVar i) (tCons (tC (.ty T)) tNil))) (sIsE b i) := by
  intro a0 F0 H0 a g F H s r Q rp post
  unfold sIsE at post
  split at post
  · rename_i hi
    obtain ⟨x, h1, h2⟩ := rp.slot i _ hi
    obtain ⟨p, hp, rfl⟩ := h2
    have e : p = ea := by
      have hp' : (if (0 : Nat) = 0 then some ea else none) = some p := hp
      simpa using hp'.symm
    subst e
    refine ⟨_, h1, .ty T, .type T, b, rfl, fun u ru => ru, h, ?_⟩
    exact post a F H (.bl b) (Ext.refl rp.sub) trivial (.bl b) trivial
  · exact post.elim
theorem so_isEAT {ea dd D : Addr} {fl : Str} {k : Int} {T : String} {b : Bool} (i : Nat) (h : PySem.W.kitOne K (.ref D) (.type T) = some b) : SoundE (⟨WXA K ea dd fl k, mg, Wx⟩ : Ctx K) (tCB (rIsEA K D ea dd [(fl, .int k)]) (tCons (tVar i) (tCons (tC (.ty T)) tNil))) (sIsE b i) := by
  intro a0 F0 H0 a g F H s r Q rp post
  unfold sIsE at post
  split at post
  · rename_i hi
    obtain ⟨x, h1, h2⟩ := rp.slot i _ hi
    obtain ⟨p, hp, rfl⟩ := h2
    have e : p = ea := by
      have hp' : (if (0 : Nat) = 0 then some ea else none) = some p := hp
      simpa using hp'.symm
    subst e
    refine ⟨_, h1, WXA.dict rp.at_ rp.sub, .ty T, .type T, b, rfl, fun u ru => ru, h, ?_⟩
    exact post a F H (.bl b) (Ext.refl rp.sub) rp.at_ (.bl b) trivial
  · exact post.elim
end
end CW
/-! CwHot: an except suite «as e» that raises out of the try. -/
namespace CW
open PySem PySem.Spec PyProof.Rows L2
section
variable {X : Cx} {pins : List (Addr × Obj)} {σ : L2.St} {H : Hp} {s : Shared}
/-- a def's own name goes: what is known of the state behind it -/
theorem inv_gone {i : Nat} {n : Str} {h' : Heap} {m : Str → Option Value} {v : Option Value} {tk : Nat} (I : Inv X pins σ H s) (hN : X.N.Nodup) (hi : X.N[i]? = some n)
    (hL : ∀ (j : Nat) (y : Str) (w : V), X.N[j]? = some y → σ[j]? = some (some w) → Vis X.env.scope y → ∃ u, RelV w u ∧ Look X.env s.heap m y u)
    (hn : s.heap.Ns X.env.locals m) (hn' : h'.Ns X.env.locals (fun x => if x = n then v else m x)) (hs : Heap.SameBut X.env.locals s.heap h') : Inv X pins (σ.set i none) H { s with heap := h', toks := tk } := by
  have off : ∀ b o, X.s_0.heap.get? b = some o → b ≠ X.env.locals := fun b o e z => by
    have h1 := Heap.lt_size e
    have h2 := I.ok.above
    rw [z] at h1
    exact absurd (Nat.lt_of_lt_of_le h1 h2) (Nat.lt_irrefl _)
  refine { ok := I.ok, os := I.os, bare := I.bare, base := ?_, loc := ⟨_, hn', fun j y w e1 e2 e3 => ?_⟩, cell := fun y c e => ?_, free := I.free, freeC := I.freeC, pin := fun p hp => ?_, hok := fun b ob e => ?_, len := by rw [List.length_set]; exact I.len }
  · have U := I.base
    exact ⟨fun b o e n hb hx => (hs.2 b (off b o e)).trans (U.keep b o e n hb hx), fun b o e n hb hx => by
      obtain ⟨sl, q⟩ := U.slot b o e n hb hx
      exact ⟨sl, (hs.2 b (off b o e)).trans q⟩, U.free, fun b o e hx => by
      obtain ⟨o', q⟩ := U.there b o e hx
      exact ⟨o', (hs.2 b (off b o e)).trans q⟩, U.tups, U.frzs, U.tbls⟩
  · by_cases hj : j = i
    · exfalso
      rw [hj] at e2
      by_cases hlt : i < σ.length
      · rw [List.getElem?_set_self hlt] at e2; cases e2
      · rw [List.getElem?_eq_none (by rw [List.length_set]; omega)] at e2; cases e2
    · rw [List.getElem?_set_ne (Ne.symm hj)] at e2
      obtain ⟨u, r, q⟩ := hL j y w e1 e2 e3
      refine ⟨u, r, ?_⟩
      have ny : y ≠ n := fun z => hj (nodup_ix hN e1 (by rw [z]; exact hi))
      rcases q with ⟨k, e⟩ | ⟨k, c, e, z⟩
      · exact .inl ⟨k, by show (if y = n then v else m y) = _; rw [if_neg ny]; exact e⟩
      · exact .inr ⟨k, c, e, z.sameBut hs (I.cne y c e)⟩
  · obtain ⟨w', z⟩ := I.cell y c e
    exact ⟨w', z.sameBut hs (I.cne y c e)⟩
  · obtain ⟨e, q, ne, r⟩ := I.pin p hp
    exact ⟨(hs.2 p.1 ne).trans e, q, ne, r⟩
  · refine (I.hok b ob e).stay (fun c w' hc q => (hs.2 c fun z => ?_).trans q) (fun _ q => q) fun _ _ q => q
    subst z
    rcases hc with hc | hc
    · rw [← hc, I.free] at e; cases e
    · rw [I.free] at hc; cases hc
theorem held_sameBut {h h' B : Heap} {l : List PySem.Env} {a L : Addr} {Z : Obj → Prop} {m m' : Str → Option Value} (x : HandSPX.HeldZ B l a Z L h) (hB : B.get? L = none) (hn : h.Ns L m) (hn' : h'.Ns L m') (hs : Heap.SameBut L h h') : HandSPX.HeldZ B l a Z L h' := by
  obtain ⟨k1, k2, k3, oe, vs, T, oT, ts, he, hz, hd, h1, hnT, hTe, hT, hdT, h3⟩ := x
  obtain ⟨oL, es, ep, hoL, hdL, _⟩ := hn
  have ne : a ≠ L := fun q => by
    rw [q, hoL] at he
    cases he
    rw [hdL] at hd
    cases hd
  have nT : T ≠ L := fun q => by
    rw [q, hoL] at hT
    cases hT
    rw [hdL] at hdT
    cases hdT
  exact ⟨fun b o e => (hs.2 b fun q => by rw [q, hB] at e; cases e).trans (k1 b o e), k2, Heap.FunFrames.sameBut hs hn' k3, oe, vs, T, oT, ts, (hs.2 a ne).trans he, hz, hd, h1, hnT, hTe, (hs.2 T nT).trans hT, hdT, h3⟩
/-- behind the suite's exception: the name goes, the exception is passed on -/
theorem as_tail {M : Model} {A A' : Around} {B : Heap} {env : PySem.Env} {outer : List PySem.Env} {L a : Addr} {Z : Obj → Prop} {n : Str} {pos : Pos} {m : Str → Option Value} {E E₂ : Value → Shared → Prop}
    (hf : env.frame = some L) (hL : env.locals = L) (hh : HandSPX.HeldZ B (env :: outer) a Z L s.heap) (hn : s.heap.Ns L m) (hlo : env.kindOf n = some .local)
    (hp : (env.scope.kind == .class || (env.scope.kind == .module && env.locals != env.globals)) = false)
    (hQ : ∀ h' v h'', h'.Ns L (fun x => if x = n then v else m x) → Heap.SameBut L s.heap h' → HandSPX.HeldZ B (env :: outer) a Z L h'' → h'.UpToSlots h'' → E (.ref a) { s with heap := h'', toks := s.toks + 1 }) :
    wpAny M A' (do bindName env n .none; unbindBehindTheSuite env n pos)
      (fun _ s₂ => wpAny M A' (PySem.passOn "try.except-as" (.ref a) env : Sem Flow) (fun _ _ => False) (notedBy M A' env (cameBackBy M A env E)) s₂) E₂ s := by
  have hB : B.get? L = none := by
    obtain ⟨_, _, ⟨_, ⟨L', _, hf', hb', _⟩, _⟩, _⟩ := id hh
    rw [hf] at hf'
    cases hf'
    exact hb'
  refine wpAny_nameGoes_keeps hlo (by rw [hL]; exact hn) hp fun h₂ v hn₂ hs₂ => ?_
  rw [hL] at hn₂ hs₂
  have f2 := held_sameBut hh hB hn hn₂ hs₂
  have u2 : h₂.UpToSlots h₂ := Heap.UpToSlots.refl _
  obtain ⟨k1, k2, k3, oe, vs, T, oT, ts, he, hz, hd, h1, hr⟩ := id f2
  unfold PySem.passOn
  refine wpAny_bind (wpAny_field he hd h1 ?_)
  rw [if_neg (show ¬ ((Value.ref T == Value.none) = true) from by simp)]
  rw [hf]
  refine wpAny_bind (HandSPX.setFlight_anyZ k1 k3 ⟨oe, vs, T, oT, ts, he, hz, hd, h1, hr⟩ fun h₃ b3 f3 t3 up3 => ?_)
  refine wpAny_throw ?_
  show wpAny M A' (noteFrame (.ref a) env) _ _ _
  refine HandSPX.againZ hf t3 ?_
  obtain ⟨oe', vs', T', oT', ts', he', hz', hd', h1', hr'⟩ := id t3
  show wpAny M A (do
    if (← field (.ref a) 1) == .none then unsupported "frame.own-activation:exception-without-traceback"
    setFlight (.ref a) env.frame) _ _ _
  refine wpAny_bind (wpAny_field he' hd' h1' ?_)
  rw [if_neg (show ¬ ((Value.ref T' == Value.none) = true) from by simp)]
  rw [hf]
  refine HandSPX.setFlight_anyZ b3 f3 t3 fun h₄ b4 f4 t4 up4 => ?_
  exact hQ h₂ v h₄ hn₂ hs₂ ⟨b4, k2, f4, t4⟩ (up3.trans up4)
end
/-- the context of an except suite «as e» that may raise: xe, what its exceptions must bear -/
abbrev suiteE (X : Cx) (a : Addr) (pn : List (Addr × Obj)) (xe : Value → Shared → Prop) : Cx := { X with A := X.A.mark (some (.ref a)), calm := false, pn := pn, xe := xe }
theorem inv_suiteE {X : Cx} {σ : L2.St} {H : Hp} {s : Shared} {a : Addr} {pn pn' : List (Addr × Obj)} {xe : Value → Shared → Prop} (I : Inv (X.suite a pn) pn' σ H s) : Inv (suiteE X a pn xe) pn' σ H s := Inv.unwish (X := suiteE X a pn xe) (E := fun _ _ => False) I
theorem inv_unsuiteE {X : Cx} {pins : List (Addr × Obj)} {σ : L2.St} {H : Hp} {s : Shared} {a : Addr} {q : Addr × Obj} {pn' : List (Addr × Obj)} {xe : Value → Shared → Prop} (I : Inv (suiteE X a (q :: (X.pn ++ pins)) xe) pn' σ H s) (ok : X.Ok) : Inv X pins σ H s :=
  Inv.unsuite (X := X) (a := a) (q := q) (pn' := pn') (Inv.wish (X := suiteE X a (q :: (X.pn ++ pins)) xe) I fun _ _ => False) ok
/-- what flies out of the suite: slot i is empty behind it -/
def wGone (i : Nat) (W : WX) : WX := fun cls d σ H => W cls d (σ.set i none) H
section
variable {X : Cx} {x n : Str} {c : Value} {i : Nat} {body suite : List Stmt} {b₀ : Stmt} {np pos pos' : Pos} {tb : WX → TS} {ts : Addr → Value → Option Addr → TS} {Wout : WX}
theorem ps_try_asX (hs : X.stack = X.env :: X.outer) (hf : X.env.frame = some X.env.locals) (hN : X.N.Nodup) (hi : X.N[i]? = some n) (hln : X.env.kindOf n = some .local) (hc : Names X x c) (tk : L2.Takes X Wout)
    (hb : ∀ (W : WX) (pn : List (Addr × Obj)) (xe : Value → Shared → Prop), L2N.Takes (X.tr pn xe) W → PassesOwn (model X.prog X.w) X.A X.env xe → PSs (X.tr pn xe) body (tb W))
    (hsu : ∀ (a : Addr) (oe : Obj) (cls : Value) (d : Option Addr) (pn : List (Addr × Obj)) (xe : Value → Shared → Prop), L2N.Zn cls d oe → (∃ vs, oe.data = .fields vs) → L2.Takes (suiteE X a ((a, oe) :: pn) xe) (wGone i Wout) → L2H.HotC (suiteE X a ((a, oe) :: pn) xe) →
      PSs (suiteE X a ((a, oe) :: pn) xe) (b₀ :: suite) (ts a cls d)) :
    PS X (.Try body [.ExceptHandler (some (.Name x np)) (some n) (b₀ :: suite) pos'] [] [] pos) (fun D σ H => tb (wAs X.K c i ts Wout D) D σ H) := by
  refine ⟨fun pins s σ H D I h => ?_⟩
  have ok := I.ok
  have hfr : X.A.frames = some (X.env :: X.outer) := by rw [ok.frames, hs]
  have hloc : Loc X.env.scope n := .inl hln
  have Lfr : X.env.locals ∈ frs X.stack := by
    rw [hs]
    exact List.mem_filterMap.mpr ⟨X.env, List.mem_cons_self, hf⟩
  refine wpAny_Try_except ?_
  refine wpAny_mono ((hb (wAs X.K c i ts Wout D) (X.pn ++ pins) (fun e s₁ => wpAny (model X.prog X.w) X.A (noteFrame e X.env) (fun _ s₂ => wpAny (model X.prog X.w) X.A (setFlight e none) (fun _ s₃ =>
    wpAny (model X.prog X.w) X.A (handleBy e X.env [.ExceptHandler (some (.Name x np)) (some n) (b₀ :: suite) pos']) (SP X pins D) X.xe s₃) X.xe s₂) X.xe s₁) (fun u s' xx => ?_) PassesOwn.looking).run [] s σ H D (I.toTry _) h) (fun f s1 hsp => ?_) (fun e s1 he => he)
  · obtain ⟨a, B, sI, pins', σ', H', cls, d, rfl, J', nb, up, sky, na, os, ag, b, hb1, hyes, hno⟩ := xx
    have J : Inv X pins σ' H' sI := J'.ofTry ok
    have sky' : Sky B (X.env :: X.outer) a (L2N.Zn cls d) X.env.locals s'.heap := by rw [← hs]; exact sky
    show wpAny (model X.prog X.w) X.A (noteFrame (.ref a) X.env) _ _ _
    refine L2N.Sky.land L2N.Zn.steady hfr hf sky' fun h3 fl3 up3 => ?_
    have J3 : Inv X pins σ' H' { s' with heap := h3 } := J.landed nb fl3.1 (up.trans up3) os ag
    obtain ⟨oe3, vs3, he3, hz3, hd3⟩ := fl3.there
    have nfr : a ∉ frs (X.env :: X.outer) := fun hm => by
      obtain ⟨_, o', e', hnf⟩ := fl3.2.2.1.mem hm
      rw [he3] at e'; cases e'
      exact hnf _ hd3
    have nL : a ≠ X.env.locals := fun z => nfr (List.mem_filterMap.mpr ⟨X.env, List.mem_cons_self, by rw [hf, z]⟩)
    have nF : a ∉ X.fs := fun hm => by
      obtain ⟨e, he, q⟩ := List.mem_filterMap.mp hm
      exact nfr (List.mem_filterMap.mpr ⟨e, List.mem_cons_of_mem _ he, q⟩)
    have S3 := J3.suite he3 hd3 na nL nF
    refine wpAny_handleBy_cons (codeAny_handlers_test ?_) (by intro q; cases q)
    have LT : PySem.W.Looks (model X.prog X.w) h3 (typeOf (.ref a)) cls := fun A Q E s k q => wpAny_typeOf_ref (k _ _ he3) (by rw [hz3.1]; exact q)
    have LM := PySem.W.exm_one (M := model X.prog X.w) (J3.kIn) LT hb1
    have test : ∀ {Q : Value → Shared → Prop} {E : Value → Shared → Prop}, Q c { s' with heap := h3 } → wpAny (model X.prog X.w) (X.A.mark (some (.ref a))) (eval (.Name x np) X.env) Q E { s' with heap := h3 } := fun {Q E} q => by
      obtain ⟨hg, hdbg, hm | ⟨hm, hv, hnn⟩⟩ := hc
      · exact ld_glob (X := X.suite a ((a, oe3) :: (X.pn ++ pins))) S3 hg hm q hdbg
      · exact ld_blt (X := X.suite a ((a, oe3) :: (X.pn ++ pins))) S3 hg hm hv q hnn hdbg
    refine test (LM.here ?_)
    cases b with
    | true =>
      refine codeAny_handlers_suite_as ?_
      refine HandSPX.lands_againZ fl3 fun h4 fl4 up4 => ?_
      have J4 : Inv X pins σ' H' { s' with heap := h4 } := J.landed nb fl4.1 ((up.trans up3).trans up4) os ag
      obtain ⟨oe4, vs4, he4, hz4, hd4⟩ := fl4.there
      have S4 := J4.suite he4 hd4 na nL nF
      refine store_ok (X := X.suite a ((a, oe4) :: (X.pn ++ pins))) (v := .ref a) S4 hN hi hloc rfl (fun s5 S5 => ?_) (.inr hln)
      have key : ∀ XP : Value → Shared → Prop, L2.Takes (suiteE X a ((a, oe4) :: (X.pn ++ pins)) XP) (wGone i Wout) → ∀ Q : Flow → Shared → Prop,
          (∀ f s6, SP (suiteE X a ((a, oe4) :: (X.pn ++ pins)) XP) [] { nx := fun σ' H' => D.nx (σ'.set i none) H', rt := D.rt, bk := fun σ' H' => D.bk (σ'.set i none) H', ct := fun σ' H' => D.ct (σ'.set i none) H' } f s6 → Q f s6) →
          wpAny (model X.prog X.w) (X.A.mark (some (.ref a))) (execs (b₀ :: suite) X.env) Q XP s5 := fun XP tkS Q hQ => by
        have hot : L2H.HotC (suiteE X a ((a, oe4) :: (X.pn ++ pins)) XP) := ⟨(a, oe4), ⟨rfl, vs4, hd4, hz4.2.2 vs4 hd4⟩, List.mem_cons_self⟩
        exact wpAny_mono ((hsu a oe4 cls d (X.pn ++ pins) XP hz4 ⟨_, hd4⟩ tkS hot).run [] s5 _ H' _ (inv_suiteE S5) (hyes rfl a na)) (fun f s6 hsp => hQ f s6 hsp) fun _ _ z => z
      refine key _ (fun u2 s2 x2 => ?_) _ (fun f s6 hsp => ?_)
      · obtain ⟨a2, B2, sI2, pn2, σ2, H2, cls2, d2, rfl, I2, nb2, up2, sky2, na2, os2, ag2, w2⟩ := x2
        have I3 : Inv X pins σ2 H2 sI2 := inv_unsuiteE I2 ok
        have sky3 : Sky B2 (X.env :: X.outer) a2 (Zc cls2 d2) X.env.locals s2.heap := by rw [← hs]; exact sky2
        obtain ⟨m2, hn2, hl2⟩ := id I3.loc
        have hcl : (X.env.scope.kind == .class || (X.env.scope.kind == .module && X.env.locals != X.env.globals)) = false := by rw [I3.ok.kind]; rfl
        have fin : ∀ (E₂ : Value → Shared → Prop) h1, HandSPX.HeldZ B2 (X.env :: X.outer) a2 (Zc cls2 d2) X.env.locals h1 → s2.heap.UpToSlots h1 →
            wpAny (model X.prog X.w) (X.A.mark (some (.ref a))) (do bindName X.env n .none; unbindBehindTheSuite X.env n pos')
              (fun _ s₂ => wpAny (model X.prog X.w) (X.A.mark (some (.ref a))) (PySem.passOn "try.except-as" (.ref a2) X.env : Sem Flow) (fun _ _ => False) (notedBy (model X.prog X.w) (X.A.mark (some (.ref a))) X.env (cameBackBy (model X.prog X.w) X.A X.env X.xe)) s₂) E₂ { s2 with heap := h1 } := fun E₂ h1 hh1 u1 => by
          have up1 := up2.trans u1
          have hn1 : h1.Ns X.env.locals m2 := by
            obtain ⟨oL, es, ep, ho, hd, r⟩ := hn2
            obtain ⟨sl, e⟩ := up1 _ _ ho fun vs z => by rw [hd] at z; cases z
            exact ⟨_, es, ep, e, hd, r⟩
          refine as_tail (s := { s2 with heap := h1 }) hf rfl hh1 hn1 hln hcl fun h' v h'' hn' hs' hh' up' => tk _ _ ?_
          obtain ⟨oL, _, _, hoL, _⟩ := id hn2
          obtain ⟨oL', es', ep', hoL', hdL', r'⟩ := id hn'
          have nfL : oL'.isFreed = false := (Heap.get?_some_iff.mp hoL').2
          have gL : (sI2.heap.update X.env.locals fun _ => oL').get? X.env.locals = some oL' := Heap.get?_update_self (fun _ => oL') hoL nfL
          have gO : ∀ b, b ≠ X.env.locals → (sI2.heap.update X.env.locals fun _ => oL').get? b = sI2.heap.get? b := fun b hb => Heap.get?_update_other _ _ (Ne.symm hb)
          refine ⟨a2, B2, { sI2 with heap := sI2.heap.update X.env.locals fun _ => oL', toks := 0 }, pins, σ2.set i none, H2, cls2, d2, rfl, inv_gone I3 hN hi hl2 hn2 ⟨oL', es', ep', gL, hdL', r'⟩ (Heap.SameBut.update _ _ _), fun b o e hb => ?_, fun b o e hnf => ?_, .inr (.inr (by rw [hs]; exact hh')), na2, os2, ag2, w2⟩
          · have nb : b ≠ X.env.locals := fun z => hb (by rw [z]; exact Lfr)
            exact nb2 b o ((gO b nb).symm.trans e) hb
          · by_cases z : b = X.env.locals
            · subst z
              have e' : (sI2.heap.update X.env.locals fun _ => oL').get? X.env.locals = some o := e
              rw [gL] at e'
              cases e'
              exact up' _ _ hoL' hnf
            · have e' : sI2.heap.get? b = some o := (gO b z).symm.trans e
              obtain ⟨sl, q⟩ := up1 b o e' hnf
              have q2 : h'.get? b = some { o with slots := sl } := (hs'.2 b z).trans q
              obtain ⟨sl2, q3⟩ := up' b _ q2 hnf
              exact ⟨sl2, q3⟩
        rcases sky3 with ⟨hB, hn, hl, oe, vs, he, hz, hd, h1⟩ | fl | hh
        · exact HandSPX.look_newZ Zc.steady hfr hl hf he hB hn hd h1 hz fun h1 a1 a2 => fin _ h1 a1 a2
        · exact HandSPX.looks_onZ Zc.steady hfr hf fl fun h1 a1 a2 => fin _ h1 a1 a2
        · exact HandSPX.againZ hf hh.2.2.2 (fin _ s2.heap hh (Heap.UpToSlots.refl _))
      · have end_ : ∀ {σ6 : L2.St} {H6 : Hp} {Q : Shared → Prop}, Inv X pins σ6 H6 s6 → (∀ s7, Inv X pins (σ6.set i none) H6 s7 → Q s7) →
            wpAny (model X.prog X.w) X.A (do bindName X.env n .none; unbindBehindTheSuite X.env n pos') (fun _ s7 => Q s7) X.xe s6 := fun {σ6 H6 Q} S6 hq => gone_ok S6 hN hi hln hq
        cases f with
        | next =>
          obtain ⟨σ6, H6, S6, q6⟩ := hsp
          exact end_ (inv_unsuiteE S6 ok) fun s7 J7 => ⟨_, _, J7, q6⟩
        | brk =>
          obtain ⟨σ6, H6, S6, q6⟩ := hsp
          exact end_ (inv_unsuiteE S6 ok) fun s7 J7 => ⟨_, _, J7, q6⟩
        | cont =>
          obtain ⟨σ6, H6, S6, q6⟩ := hsp
          exact end_ (inv_unsuiteE S6 ok) fun s7 J7 => ⟨_, _, J7, q6⟩
        | ret u =>
          obtain ⟨v6, σ6, H6, S6, r6, q6⟩ := hsp
          exact end_ (inv_unsuiteE S6 ok) fun s7 J7 => ⟨_, _, _, J7, r6, q6⟩
    | false =>
      show wpAny _ X.A (handleBy (.ref a) X.env []) _ _ _
      refine wpAny_handleBy_nil ?_
      obtain ⟨k1, k2, k3, oe, vs, T, oT, ts', he, hz, hd, h1, hr⟩ := id fl3
      unfold PySem.passOn
      refine wpAny_bind (wpAny_field he hd h1 ?_)
      rw [if_neg (show ¬ ((Value.ref T == Value.none) = true) from by simp)]
      have fin : wpAny (model X.prog X.w) X.A (setFlight (.ref a) X.env.frame) (fun _ s4 => wpAny (model X.prog X.w) X.A (throw (.ref a) : Sem Flow) (SP X pins D) X.xe s4) X.xe { s' with heap := h3 } := by
        rw [hf]
        refine HandSPX.setFlight_upZ (L2H.flyingZ_imp (fun o z => z.zc) fl3) fun h4 hh4 up4 => wpAny_throw (tk _ _ ?_)
        exact ⟨a, B, sI, pins, σ', H', cls, d, rfl, J, nb, (up.trans up3).trans up4, .inr (.inr (by rw [hs]; exact hh4)), na, os, ag, hno rfl⟩
      first
        | exact wpAny_bind (wpAny_pure (wpAny_bind fin))
        | exact wpAny_bind fin
  · cases f with
    | next =>
      obtain ⟨σ', H', J', q⟩ := hsp
      exact wpAny_execs_nil ⟨σ', H', J'.ofTry ok, q⟩
    | brk =>
      obtain ⟨σ', H', J', q⟩ := hsp
      exact ⟨σ', H', J'.ofTry ok, q⟩
    | cont =>
      obtain ⟨σ', H', J', q⟩ := hsp
      exact ⟨σ', H', J'.ofTry ok, q⟩
    | ret u =>
      obtain ⟨v, σ', H', J', r, q⟩ := hsp
      exact ⟨v, σ', H', J'.ofTry ok, r, q⟩
end
end CW
/-! CwHot2: raise X(..) from e, e the exception at hand. -/
namespace CW
open PySem PySem.Spec PyProof.Rows L2
/-- the heap behind «from x1» -/
def fromH (h : Heap) (a x1 : Addr) : Heap := (h.update a (Obj.mapFields (·.setIfInBounds 3 (.ref x1)))).update a (Obj.mapFields (·.setIfInBounds 4 (.bool true)))
theorem fromH_at {h : Heap} {a x1 : Addr} {oe : Obj} {vs : Array Value} (ha : h.get? a = some oe) (hd : oe.data = .fields vs) :
    (fromH h a x1).get? a = some ((oe.mapFields (·.setIfInBounds 3 (.ref x1))).mapFields (·.setIfInBounds 4 (.bool true))) ∧ ((oe.mapFields (·.setIfInBounds 3 (.ref x1))).mapFields (·.setIfInBounds 4 (.bool true))).data = .fields ((vs.setIfInBounds 3 (.ref x1)).setIfInBounds 4 (.bool true)) := by
  have hd3 := Obj.data_mapFields hd (·.setIfInBounds 3 (.ref x1))
  have ha3 := Heap.get?_update_self (Obj.mapFields (·.setIfInBounds 3 (.ref x1))) ha (Obj.isFreed_of_fields hd3)
  have hd4 := Obj.data_mapFields hd3 (·.setIfInBounds 4 (.bool true))
  exact ⟨Heap.get?_update_self (Obj.mapFields (·.setIfInBounds 4 (.bool true))) ha3 (Obj.isFreed_of_fields hd4), hd4⟩
theorem fromH_other {h : Heap} {a b x1 : Addr} (hne : a ≠ b) : (fromH h a x1).get? b = h.get? b := by
  unfold fromH
  rw [Heap.get?_update_other _ _ hne, Heap.get?_update_other _ _ hne]
theorem raise_hotE {prog : Program} {w : World} {A : Around} {E : Value → Shared → Prop} {env : PySem.Env} {s : Shared} {x c : Sem Value} {Q : Flow → Shared → Prop} {x1 : Addr}
    (h : wpAny (model prog w) A x (fun v s₁ => ∃ a oe vs cls o1 vs1, v = .ref a ∧ s₁.heap.get? a = some oe ∧ oe.cls = cls ∧ oe.data = .fields vs ∧ vs[1]? = some .none ∧ 4 < vs.size ∧ x1 ≠ a ∧ HotX.HotAt A x1 s₁.heap ∧
      s₁.heap.get? x1 = some o1 ∧ o1.data = .fields vs1 ∧ PySem.W.Looks (model prog w) s₁.heap (isSubtype o1.cls (.type "BaseException")) true ∧
      (∀ Q' : Value → Shared → Prop, Q' (.ref x1) s₁ → wpAny (model prog w) A c Q' E s₁) ∧
      PySem.W.Looks (model prog w) s₁.heap (isSubtype cls (.type "BaseException")) true ∧ PySem.W.Looks (model prog w) (fromH s₁.heap a x1) (typeOf cls) (.type "type") ∧
      E (.ref a) { s₁ with heap := (fromH s₁.heap a x1).update a (Obj.mapFields (·.setIfInBounds 2 (.ref x1))) }) E s) :
    wpAny (model prog w) A (raiseStmt env (some x) (some c)) Q E s := by
  unfold raiseStmt
  dsimp only
  refine wpAny_bind (wpAny_mono h (fun v s₁ h₁ => ?_) fun _ _ x => x)
  obtain ⟨a, oe, vs, cls, o1, vs1, rfl, ha, hcls, hd, h1, hi, hne, hot, e1, d1, Lc, hcs, L1, L3, hE⟩ := h₁
  have LT : PySem.W.Looks (model prog w) s₁.heap (typeOf (.ref a)) cls := fun A Q E s k q => wpAny_typeOf_ref (k _ _ ha) (by rw [hcls]; exact q)
  have LI : PySem.W.Looks (model prog w) s₁.heap (isInstance (.ref a) (.type "BaseException")) true := LT.andThen L1
  have LT1 : PySem.W.Looks (model prog w) s₁.heap (typeOf (.ref x1)) o1.cls := fun A Q E s k q => wpAny_typeOf_ref (k _ _ e1) q
  have LI1 : PySem.W.Looks (model prog w) s₁.heap (isInstance (.ref x1) (.type "BaseException")) true := LT1.andThen Lc
  have notT : ∀ {s₂ : Shared} {b : Addr} {o : Obj} {us : Array Value} {Q' : Bool → Shared → Prop}, s₂.heap.get? b = some o → o.data = .fields us → Q' false s₂ → wpAny (model prog w) A (isType (.ref b)) Q' E s₂ := by
    intro s₂ b o us Q' hb hu hq
    simp only [isType, loadHead]
    refine wpAny_bind (wpAny_loadPart hb ?_)
    rw [hu]; exact wpAny_pure hq
  have hd3 := Obj.data_mapFields hd (·.setIfInBounds 3 (.ref x1))
  have ha3 := Heap.get?_update_self (Obj.mapFields (·.setIfInBounds 3 (.ref x1))) ha (Obj.isFreed_of_fields hd3)
  obtain ⟨ha4, hd4⟩ := fromH_at (x1 := x1) ha hd
  have s3 : 3 < vs.size := by omega
  have s4 : 4 < (vs.setIfInBounds 3 (Value.ref x1)).size := by rw [HotX.set_size]; exact hi
  have s2 : 2 < ((vs.setIfInBounds 3 (Value.ref x1)).setIfInBounds 4 (Value.bool true)).size := by rw [HotX.set_size, HotX.set_size]; omega
  have h14 : ((vs.setIfInBounds 3 (Value.ref x1)).setIfInBounds 4 (Value.bool true))[1]? = some Value.none := HotX.set_other (by decide) (HotX.set_other (by decide) h1)
  have hcls4 : ((oe.mapFields (·.setIfInBounds 3 (.ref x1))).mapFields (·.setIfInBounds 4 (.bool true))).cls = cls := by rw [Obj.cls_mapFields, Obj.cls_mapFields]; exact hcls
  have LT4 : PySem.W.Looks (model prog w) (fromH s₁.heap a x1) (typeOf (.ref a)) cls := fun A Q E s k q => wpAny_typeOf_ref (k _ _ ha4) (by rw [hcls4]; exact q)
  have hot4 : HotX.HotAt A x1 (fromH s₁.heap a x1) := by
    obtain ⟨q1, o, vs', q2, q3, q4⟩ := hot
    exact ⟨q1, o, vs', by rw [fromH_other (Ne.symm hne)]; exact q2, q3, q4⟩
  have rest : wpAny (model prog w) A (do
      let b ← isType (.ref a)
      if b = true then do
        let e ← holding [.ref a] (raisedFor (.ref a) (.ref a))
        setFlight e none
        raiseNew e
      else do
        let e ← raisedInstance (.ref a)
        setFlight e none
        raiseNew e : Sem Flow) Q E { s₁ with heap := fromH s₁.heap a x1 } := by
    refine wpAny_bind (notT (s₂ := { s₁ with heap := fromH s₁.heap a x1 }) ha4 hd4 ?_)
    simp only [Bool.false_eq_true, if_false]
    unfold raisedInstance
    refine wpAny_bind (wpAny_bind (LT4.here (wpAny_bind (L3.here ?_))))
    rw [if_pos (beq_self_eq_true _)]
    refine wpAny_pure ?_
    unfold setFlight
    refine wpAny_bind (wpAny_bind (wpAny_field ha4 hd4 h14 ?_))
    rw [if_neg (by decide)]
    refine wpAny_pure ?_
    exact HotX.raiseNew_hot hot4 hne ha4 hd4 s2 hE
  refine wpAny_bind (wpAny_holding (hcs _ (wpAny_bind (wpAny_pure ?_))))
  dsimp only
  refine wpAny_bind (wpAny_holding ?_)
  have inst : ∀ {b : Addr} {o : Obj} {us : Array Value} {cm : String} {Q' : Value → Shared → Prop}, s₁.heap.get? b = some o → o.data = .fields us → PySem.W.Looks (model prog w) s₁.heap (isInstance (.ref b) (.type "BaseException")) true → Q' (.ref b) s₁ → wpAny (model prog w) A (excFromValue (.ref b) cm) Q' E s₁ := by
    intro b o us cm Q' hb hu LL hq
    unfold excFromValue isExcClass
    refine wpAny_bind (wpAny_bind (notT hb hu ?_))
    simp only [Bool.false_eq_true, if_false]
    refine wpAny_pure ?_
    simp only [Bool.false_eq_true, if_false]
    refine wpAny_bind (LL.here ?_)
    simp only [if_true]
    exact wpAny_pure hq
  refine inst ha hd LI ?_
  rw [if_neg (show ¬ ((Value.ref x1 == Value.none) = true) from by simp)]
  refine wpAny_bind (wpAny_holding (inst e1 d1 LI1 ?_))
  first
  | refine wpAny_bind (wpAny_setField ha hd s3 (wpAny_bind (wpAny_setField ha3 hd3 s4 ?_)))
  | refine wpAny_bind (wpAny_pure (wpAny_bind (wpAny_setField ha hd s3 (wpAny_bind (wpAny_setField ha3 hd3 s4 ?_)))))
  exact rest
/-- raise C(..) from n, in the suite of n -/
theorem ps_raiseHE {X : Cx} {W : WX} {e : Expr} {t : L2.St → Hp → XK → Prop} {a1 : Addr} {o1 : Obj} {i : Nat} {n : Str} {np pos : Pos} (hA : X.A.handled = some (.ref a1)) (hp : (a1, o1) ∈ X.pn) (hc1 : ∃ vs : Array Value, o1.data = .fields vs ∧ vs[2]? = some .none)
    (hsub : PySem.W.subIn X.K o1.cls (.type "BaseException") = some true) (hi : X.N[i]? = some n) (hln : X.env.kindOf n = some .local) (hdb : (n == ("__debug__" : Str)) = false) (tk : L2.Takes X W) (he : L2H.PMk5 X e t) :
    PS X (.Raise (some e) (some (.Name n np)) pos) (fun _ σ H => σ[i]? = some (some (.ref a1)) ∧ t σ H fun cls d H' => W cls d σ H') := by
  refine ⟨fun pins s σ H D I h => ?_⟩
  obtain ⟨hσ, h⟩ := h
  obtain ⟨v1, e1, c1⟩ := hc1
  show wpAny _ _ (do standAt pos; raiseStmt X.env (some (do let v ← eval e X.env; standAt pos; pure v)) (some (do let v ← eval (.Name n np) X.env; standAt pos; pure v))) _ _ _
  refine wpAny_bind (wpAny_standAt (raise_hotE (x1 := a1) (wpAny_bind (wpAny_mono (he pins s σ H _ I h) (fun u s1 hu => wpAny_bind (wpAny_standAt (wpAny_pure ?_))) fun _ _ x => x))))
  obtain ⟨⟨a, oe, vs, sI, H', cls, d, rfl, J, k, hne, ha, hz, hd, h1, na, os, ag, r, q⟩, h5⟩ := hu
  have hi4 : 4 < vs.size := h5 a oe vs rfl ha hd
  have P1 := (J.pin (a1, o1) (List.mem_append_left _ hp)).1
  have nap : a1 ≠ a := fun z => by
    have P2 : sI.heap.get? a1 = some o1 := P1
    rw [z, hne] at P2
    cases P2
  have k4 : ∀ b u, sI.heap.get? b = some u → (fromH s1.heap a a1).get? b = some u := fun b u z => by
    have nab : a ≠ b := fun y => by
      rw [← y, hne] at z
      cases z
    rw [fromH_other nab]
    exact k b u z
  obtain ⟨r1, _⟩ := r (model X.prog X.w) s1.heap (J.kIn.keeps k)
  obtain ⟨_, r2⟩ := r (model X.prog X.w) (fromH s1.heap a a1) (J.kIn.keeps k4)
  obtain ⟨ha4, hd4⟩ := fromH_at (x1 := a1) ha hd
  have h12 : (((vs.setIfInBounds 3 (Value.ref a1)).setIfInBounds 4 (Value.bool true)).setIfInBounds 2 (Value.ref a1))[1]? = some Value.none := HotX.set_other (by decide) (HotX.set_other (by decide) (HotX.set_other (by decide) h1))
  refine ⟨a, oe, vs, cls, o1, v1, rfl, ha, hz.1, hd, h1, hi4, nap, ⟨hA, o1, v1, k _ _ P1, e1, c1⟩, k _ _ P1, e1, PySem.W.looks_subIn (J.kIn.keeps k) hsub, fun Q' hq => ?_, r1, r2, tk _ _ (XE.new J (fun b u z => ?_) hne (Heap.get?_update_self _ ha4 (Obj.isFreed_of_fields (Obj.data_mapFields hd4 _)))
    ⟨by rw [Obj.cls_mapFields, Obj.cls_mapFields, Obj.cls_mapFields]; exact hz.1, by rw [HandSPX.dict_mapFields, HandSPX.dict_mapFields, HandSPX.dict_mapFields]; exact hz.2.1⟩ (Obj.data_mapFields hd4 _) h12 na os ag q)⟩
  · obtain ⟨m, ⟨oL, es, ep, hoL, hdL, rL⟩, hl⟩ := id J.loc
    have hn1 : s1.heap.Ns X.env.locals m := ⟨oL, es, ep, k _ _ hoL, hdL, rL⟩
    obtain ⟨u, ru, l⟩ := hl i n (.ref a1) hi hσ (.inl hln)
    obtain rfl : u = Value.ref a1 := ru
    rcases l with ⟨hk, hm⟩ | ⟨hk, _⟩
    · exact wpAny_bind (wpAny_Name (wpAny_loadName_local J.ok.kind hk hn1 hm (wpAny_bind (wpAny_standAt (wpAny_pure hq)))) hdb)
    · rcases hk with hk | hk
      · have z : X.env.kindOf n = some .local := hln
        have z2 : X.env.kindOf n = _ := hk
        rw [z] at z2
        cases z2
      · have z : X.env.kindOf n = some .local := hln
        have z2 : X.env.kindOf n = _ := hk
        rw [z] at z2
        cases z2
  · have nab : a ≠ b := fun y => by
      rw [← y, hne] at z
      cases z
    show ((fromH s1.heap a a1).update a (Obj.mapFields (·.setIfInBounds 2 (.ref a1)))).get? b = some u
    rw [Heap.get?_update_other _ _ nab]
    exact k4 b u z
end CW
/-! CwHot3: defs whose refusals have no context; a try whose suite raises from what it caught. -/
namespace CW
open PySem PySem.Spec PyProof.Rows L2 LamX
section
variable {P : Program} {w : World} {K : FR} {mg : Str → Option Value} {base : Heap} {k : Nat} {f : Addr} {fd : FuncData} {ps : List Str} {sp : Sp}
theorem cx_ofN {outer : List PySem.Env} {H : Hp} {s : Shared} {E : XK} {u : Value} {s' : Shared} (h : L2N.CX P w outer H s E u s') : L2.CX P w outer H s E u s' := by
  obtain ⟨a, B, H', cls, d, e, fl, r⟩ := h
  exact ⟨a, B, H', cls, d, e, L2H.flyingZ_imp (fun o z => z.zc) fl, r⟩
/-- a def whose refusals have no context is a def -/
theorem fn_ofN (F : FnOk P w K mg base (L2N.CX P w) k f fd ps sp) : FnOk P w K mg base (L2.CX P w) k f fd ps sp :=
  ⟨F.len, fun A outer s H args us vs Q E hr e0 hb hv hs => codeAny_mono (F.run A outer s H args us vs Q E hr e0 hb hv hs) fun r s' h => by
    cases r with
    | ok v => cases v <;> exact h
    | error e => exact cx_ofN h⟩
def HasN (P : Program) (w : World) (K : FR) (mg : Str → Option Value) (base : Heap) (k : Nat) (x : Str) (ps : List Str) (dvs : List V) (sp : Sp) : Prop :=
  ∃ f fd ds, FnOk P w K mg base (L2N.CX P w) k f fd ps sp ∧ mg x = some (.ref f) ∧ PySem.W.keepIn K (.ref f) = true ∧ Vals dvs ds ∧ Binds K fd ps ds
theorem HasN.has {x : Str} {dvs : List V} (h : HasN P w K mg base k x ps dvs sp) : Has P w K mg base k x ps dvs sp := by
  obtain ⟨f, fd, ds, F, r⟩ := h
  exact ⟨f, fd, ds, fn_ofN F, r⟩
end
section
variable {X : Cx} {j k : Nat} {ps : List Str} {dvs : List V} {sp : Sp} {x : Str} {p pos : Pos} {e : Expr} {es : List Expr} {t : TA} {W : WX}
theorem pe_callHN (h : HasN X.prog X.w X.K X.mg X.base j x ps dvs sp) (hr : Room k X.A) (hj : j ≤ k) (tk : L2N.Takes X W) (hg : Gl X x)
    (ha : PA X (e :: es) t) (hdb : (x == ("__debug__" : Str)) = false := by decide) (he : starEach (e :: es) X.env = (false, eval e X.env) :: starEach es X.env := by rfl) (hpl : (backTo pos (starEach es X.env)).any (·.1) = false := by rfl) :
    PE X (.Call (.Name x p) (e :: es) [] pos) (tCallSD sp dvs (fun s => WE W s) t) := by
  obtain ⟨f, fd, ds, F, hm, hk, hd, hb⟩ := h
  exact pe_callSD F (hr.mono hj) hg hm hk hb hd (fun σ => L2N.passAt tk σ) ha hdb he hpl
theorem ps_raisePN {m : Str} {C : Addr} {jj : Nat} {p2 p3 : Pos} (hc : X.calm = true) (tk : L2N.Takes X W) (hm : X.mg x = some (.ref C)) (hp : plainB X.K C = true) (hg : Gl X x) (hdb : (x == ("__debug__" : Str)) = false := by decide) :
    PS X (.Raise (some (.Call (.Name x p) [.Constant (.str m) jj p2] [] p3)) none pos) (tRaise C W) := by
  simp only [plainB, Bool.and_eq_true, decide_eq_true_eq] at hp
  obtain ⟨q1, q2, q3, q4⟩ := hp
  exact L2N.ps_raise hc tk (L2N.pmk_own PySem.F.excBase_ValueError q1 hm q2 (raises_own q3 q4) hg hdb)
end
/-! ### C's own beginning, in a suite -/
def HasIH (P : Program) (w : World) (K : FR) (mg : Str → Option Value) (base : Heap) (k : Nat) (C : Addr) (fl : Str) : Prop := OexC K C ∧ ∃ (fI : Addr) (fd : FuncData) (ps : List Str), PySem.W.findIn K (.ref C) "__init__" = some (some (.ref fI)) ∧ PySem.W.typeIn K (.ref fI) = some (.type "function") ∧
  L2H.FnH P w K mg base (L2.CX P w) k fI fd ps (spInit C fl) ∧ L2.Binds K fd ps []
section
variable {P : Program} {w : World} {K : FR} {mg : Str → Option Value} {base : Heap}
theorem FunD.okH {x qual : Str} {params : Arguments} {body : List Stmt} {scope : Scope} {dvs : List V} {kws : List (Str × V)} {f : Addr} {fd : FuncData} {N ps : List Str} {k : Nat} {sp : Sp} {CX : CXT} (F : FunD K x qual params body scope dvs kws f fd) (S : FnScope N ps scope) (len : ∀ vs H Q E, sp vs H Q E → vs.length = ps.length)
    (hbody : ∀ (cdv : Value) (A : Around) (outer : List PySem.Env) (s : Shared) (H : Hp) (vs : List V) (Q : VK) (E : XK) (p : Addr × Obj), L2H.Hot1 A p → L2H.RoomH k (A.deeper (envOfC qual scope s.heap.objs.size f cdv)) → sp vs H Q E →
      ∃ t, PSs (L2H.cxH CX P w K mg base N qual scope f cdv A outer s H E p) body t ∧ t { nx := fun _ H' => Q .non H', rt := Q } (L2.start N vs) H) : L2H.FnH P w K mg base CX (k + 1) f fd ps sp := by
  obtain ⟨oc, od, dV, kV, doc, pm, an, cdv, ct, osl, rfl, lk, hcd, _, _⟩ := F.ex
  exact L2H.fn_ofH lk hcd S len fun A outer s H vs Q E p hot hr hsp => hbody cdv A outer s H vs Q E p hot hr hsp
end
/-! ### the try -/
@[reducible] def tTryR (K : FR) (cv : Value) (i : Nat) (tb : WX → TS) (C : Addr) (fl : Str) (ta : TE) (W : WX) : TS := fun D σ H =>
  tb (wAs K cv i (fun a cls _ D2 σ2 H2 => PySem.W.subIn K cls (.type "BaseException") = some true ∧ σ2[i]? = some (some (.ref a)) ∧ tRaiseA C fl (tCons ta tNil) (wGone i W) D2 σ2 H2) W D) D σ H
theorem ps_and {X : Cx} {st : Stmt} {A : Prop} {t : TS} (h : A → PS X st t) : PS X st (fun D σ H => A ∧ t D σ H) := ⟨fun pins s σ H D I q => (h q.1).run pins s σ H D I q.2⟩
section
variable {X : Cx} {x n x2 fl : Str} {cv : Value} {i k k2 : Nat} {C : Addr} {body : List Stmt} {e : Expr} {ta : TE} {np p2 p3 p4 p5 pos pos' : Pos} {tb : WX → TS} {Wout : WX}
theorem ps_tryR (hs : X.stack = X.env :: X.outer) (hf : X.env.frame = some X.env.locals) (hN : X.N.Nodup) (hi : X.N[i]? = some n) (hln : X.env.kindOf n = some .local) (hc : Names X x cv) (tk : L2.Takes X Wout)
    (hb : ∀ (W : WX) (pn : List (Addr × Obj)) (xe : Value → Shared → Prop), L2N.Takes (X.tr pn xe) W → PassesOwn (model X.prog X.w) X.A X.env xe → PSs (X.tr pn xe) body (tb W))
    (I : HasIH X.prog X.w X.K X.mg X.base k C fl) (hr : Room k2 X.A) (hj : k + 1 ≤ k2) (hg : Gl X x2) (hm : X.mg x2 = some (.ref C)) (ha : ∀ (a : Addr) (pn : List (Addr × Obj)) (xe : Value → Shared → Prop), PE (suiteE X a pn xe) e ta)
    (hdn : (n == ("__debug__" : Str)) = false := by decide) (hdb : (x2 == ("__debug__" : Str)) = false := by decide) (hst : starEach [e] X.env = (false, eval e X.env) :: starEach [] X.env := by rfl) :
    PS X (.Try body [.ExceptHandler (some (.Name x np)) (some n) [.Raise (some (.Call (.Name x2 p2) [e] [] p3)) (some (.Name n p4)) p5] pos'] [] [] pos) (tTryR X.K cv i tb C fl ta Wout) := by
  refine ps_try_asX hs hf hN hi hln hc tk hb fun a oe cls d pn xe hz hv tkS hot => ?_
  obtain ⟨T, fI, fd, ps, h1, h2, F1, hbn⟩ := I
  obtain ⟨vs, hvs⟩ := hv
  have mk : L2H.PMk5 (suiteE X a ((a, oe) :: pn) xe) (.Call (.Name x2 p2) [e] [] p3) (tMkO C (spInit C fl) [] (tCons ta tNil)) :=
    L2H.pmk5_oexH (X := suiteE X a ((a, oe) :: pn) xe) T h1 h2 F1 (L2H.RoomH.mono (L2H.roomH_mark hr (some (.ref a))) hj) hot hbn (passes_call tkS fun _ _ _ _ z => z.elim) hg hm (pa_cons (ha a _ xe) pa_nil hst) hdb hst (by rfl)
  refine pss_one (ps_and fun hsub => ?_)
  exact ps_raiseHE (X := suiteE X a ((a, oe) :: pn) xe) rfl List.mem_cons_self ⟨vs, hvs, hz.2.2 vs hvs⟩ (by rw [hz.1]; exact hsub) hi hln hdn tkS mk
end
section
variable {K : FR} {c : Ctx K}
theorem Rep.slotN {a0 a : c.W.A} {g : c.W.G} {F0 H0 F H : Hp} {s : L2.St} {r : Env} {i : Nat} {y : Option V} (rp : Rep c.W a0 F0 H0 a g F H s r) (hi : r[i]? = some none) : Rep c.W a0 F0 H0 a g F H (s.set i y) r where
  ext := rp.ext
  at_ := rp.at_
  len := by rw [List.length_set]; exact rp.len
  slot := fun j v h => by
    by_cases e : j = i
    · rw [e, hi] at h; cases h
    · obtain ⟨x, h1, h2⟩ := rp.slot j v h
      exact ⟨x, by rw [List.getElem?_set_ne (Ne.symm e)]; exact h1, h2⟩
  nol := rp.nol
  own := fun j l p h1 h2 => by
    have e : j ≠ i := fun e => by rw [e, hi] at h1; cases h1
    rw [List.getElem?_set_ne (Ne.symm e)] at h2
    obtain ⟨q1, q2⟩ := rp.own j l p h1 h2
    refine ⟨q1, fun j2 m n2 h3 => ?_⟩
    have e2 : j2 ≠ i := fun e => by rw [e, hi] at h3; cases h3
    rw [List.getElem?_set_ne (Ne.symm e2)]
    exact q2 j2 m n2 h3
theorem ss_tryR {cv : Value} {i : Nat} {tb : WX → TS} {mb : MS c.W.G} {ta : TE} {me : ME c.W.G} {C : Addr} {x2 fl : Str} {ns : List Str} (hb : ∀ W', SoundS (⟨c.W, c.mg, W'⟩ : Ctx K) (tb W') mb) (hm : SoundE (⟨c.W, c.mg, wGone i c.Wx⟩ : Ctx K) ta me)
    (hns : ∀ n ∈ ns, ∀ p, c.mg n = some (.ref p) → PySem.W.exmOne K (.ref p) cv = some true ∧ PySem.W.subIn K (.ref p) (.type "BaseException") = some true) (hC : c.mg x2 = some (.ref C)) (hfl : (if x2 = "BadText" then "row" else "at" : Str) = fl) :
    SoundS c (tTryR K cv i tb C fl ta c.Wx) (sTryR ns i x2 mb me) := by
  intro a0 F0 H0 a g F H s r D rp post
  refine hb (wAs K cv i (fun a cls _ D2 σ2 H2 => PySem.W.subIn K cls (.type "BaseException") = some true ∧ σ2[i]? = some (some (.ref a)) ∧ tRaiseA C fl (tCons ta tNil) (wGone i c.Wx) D2 σ2 H2) c.Wx D) a0 F0 H0 a g F H s r D rp ?_
  unfold sTryR at post
  cases e : mb r g with
  | no => rw [e] at post; exact post.elim
  | nx r2 g2 => rw [e] at post; exact post
  | rt v2 g2 => rw [e] at post; exact post
  | bk r2 g2 => rw [e] at post; exact post
  | ct r2 g2 => rw [e] at post; exact post
  | er er r1 g1 =>
    rw [e] at post
    simp only at post
    split at post
    · rename_i hc
      obtain ⟨hn, hi⟩ := hc
      have hi : r1[i]? = some none := by
        unfold isFree at hi
        split at hi
        · assumption
        · cases hi
      intro a1 F1 H1 s1 Cv d rp1 hE
      obtain ⟨⟨p, hp, rfl⟩, hd⟩ := hE
      obtain ⟨f1, f2⟩ := hns _ hn p hp
      refine ⟨true, f1, fun _ ax hax => ⟨f2, ?_, ?_⟩, fun z => nomatch z⟩
      · rw [List.getElem?_set_self]
        rw [rp1.len]
        exact (List.getElem?_eq_some_iff.mp hi).1
      · refine ss_raiseA (c := (⟨c.W, c.mg, wGone i c.Wx⟩ : Ctx K)) hC hfl hm a0 F0 H0 a1 g1 F1 H1 _ r1 _ (Rep.slotN (c := c) rp1 hi) ?_
        unfold sRaiseA at post ⊢
        cases e2 : me r1 g1 with
        | no => rw [e2] at post; exact post.elim
        | er e3 g3 =>
          rw [e2] at post
          exact fun a' F' H' s' C' d' rp' hE' => post a' F' H' (s'.set i none) C' d' (Rep.slotN (c := c) rp' hi) hE'
        | ok v g3 =>
          rw [e2] at post
          simp only [R.out_ok] at post ⊢
          split
          · simp only at post
            exact fun a' F' H' s' C' d' rp' hE' => post a' F' H' (s'.set i none) C' d' (Rep.slotN (c := c) rp' hi) hE'
          · rename_i hno
            split at post
            · exact absurd rfl (hno _)
            · exact post
    · exact post.elim
end
end CW
namespace CWL
section
open PySem CW
abbrev ns_told : List Str := []
abbrev na_told : List Str := ["BadSeen"]
noncomputable def b__law_dice : MS DG := (sSeq (sAsg (sC (.int 0)) (gN 1))
    (sSeq (sFor (iDScr 0) (gN 2) (sAsg (sOp oMod (sOp oAdd (sOp oAdd (sOp oMul (sV 1) (sC (.int 48271))) (sOp oMul (sOp oMod (sV 2) (sC (.int 2147483647))) (sC (.int 69621)))) (sC (.int 11))) (sC (.int 2147483647))) (gN 1)))
    (sRetDice 0 (sC (.int 0)) (sOp oMul (sV 1) (sB bInt (sCons (sOp oGt (sDLen (sV 0)) (sC (.int 2))) sNil))) (sC (.int 0)))))
noncomputable def f__law_dice : List PyData → DG → R Vl DG := runT 0 0 3 b__law_dice
noncomputable def b__law_next : MS DG := (sSeq (sIfS (sTst (sOp oGt (sDIx 0 3) (sC (.int 0)))) (sSeq (sAsg (sOp oMod (sDIx 0 3) (sV 1)) (gN 2))
    (sSeq (sDSet 0 3 (sOp oDiv (sDIx 0 3) (sV 1)))
    (sRetV 2))) sNext)
    (sSeq (sDSet 0 1 (sOp oAdd (sDIx 0 1) (sC (.int 1))))
    (sSeq (sIfS (sTst (sOp oLe (sDIx 0 1) (sDLen (sDIx 0 0)))) (sSeq (sAsg (sDAt (sDIx 0 0) (sOp oSub (sDIx 0 1) (sC (.int 1)))) (gN 3))
    (sSeq (sDSet 0 3 (sIf (sTst (sOp oGe (sV 3) (sOp oPow (sC (.int 10)) (sC (.int 18))))) (sOp oDiv (sV 3) (sV 1)) (sC (.int 0))))
    (sRet (sOp oMod (sV 3) (sV 1))))) sNext)
    (sSeq (sDSet 0 2 (sOp oMod (sOp oMul (sDIx 0 2) (sC (.int 48271))) (sC (.int 2147483647))))
    (sRet (sOp oMod (sOp oDiv (sDIx 0 2) (sC (.int 7))) (sV 1)))))))
noncomputable def f__law_next : List PyData → DG → R Vl DG := runT 1 1 4 b__law_next
noncomputable def b__law_works : MS DG := (sSeq (sAsg (sLst (sCons (sTup (sCons (sC (.int 0)) (sCons (sC (.int 0)) (sCons (sOp oAdd (sC (.int 2)) (sCallT 1 f__law_next (sCons (sV 0) (sCons (sOp oIx (sLst (sCons (sC (.int 9)) (sCons (sC (.int 98)) sNil))) (sCallT 1 f__law_next (sCons (sV 0) (sCons (sC (.int 2)) sNil)))) sNil)))) sNil)))) sNil)) (gN 3))
    (sSeq (sFor (iRng2 (sC (.int 1)) (sOp oAdd (sC (.int 1)) (sCallT 1 f__law_next (sCons (sV 0) (sCons (sV 1) sNil))))) (gN 4) (sApp 3 (sTup (sCons (sCallT 1 f__law_next (sCons (sV 0) (sCons (sV 4) sNil))) (sCons (sOp oAdd (sC (.int 4)) (sCallT 1 f__law_next (sCons (sV 0) (sCons (sOp oSub (sV 2) (sC (.int 3))) sNil)))) (sCons (sOp oAdd (sC (.int 4)) (sCallT 1 f__law_next (sCons (sV 0) (sCons (sOp oSub (sV 2) (sC (.int 3))) sNil)))) sNil))))))
    (sRet (sB bTuple (sCons (sV 3) sNil)))))
noncomputable def f__law_works : List PyData → DG → R Vl DG := runT 1 2 5 b__law_works
noncomputable def b__law_worn : MS DG := (sSeq (sAsg (sLst sNil) (gN 3))
    (sSeq (sFor (iRng1 (sCallT 1 f__law_next (sCons (sV 0) (sCons (sOp oAdd (sV 2) (sC (.int 1))) sNil)))) (gN 4) (sSeq (sAsg (sCallT 1 f__law_next (sCons (sV 0) (sCons (sB bLen (sCons (sV 1) sNil)) sNil))) (gN 5))
    (sIfS (sTst (sOp oGt (sV 5) (sC (.int 0)))) (sApp 3 (sTup (sCons (sV 5) (sCons (sCallT 1 f__law_next (sCons (sV 0) (sCons (sOp oIx (sOp oIx (sV 1) (sV 5)) (sC (.int 1))) sNil))) sNil)))) sNext)))
    (sFrz [3] (sRet (sB bTuple (sCons (sUn oSrtSet (sV 3)) sNil))))))
noncomputable def f__law_worn : List PyData → DG → R Vl DG := runT 1 2 6 b__law_worn
noncomputable def b__law_marks : MS Unit := (sRet (sLc (iSeq (sV 1)) (gT [(gN 3), (gN 4), (gN 5)]) sYes (sOp oMod (sOp oDiv (sOp oMul (sOp oIx (sV 2) (sV 4)) (sV 5)) (sOp oIx (sOp oIx (sV 0) (sV 4)) (sC (.int 2)))) (sV 5)) [3, 4, 5]))
noncomputable def f__law_marks : List PyData → R Vl Unit := runD 3 6 b__law_marks
noncomputable def b__law_steps : MS Unit := (sSeq (sAsg (sLst (sCons (sV 2) sNil)) (gN 3))
    (sSeq (sFor (iRng2 (sC (.int 1)) (sB bLen (sCons (sV 0) sNil))) (gN 4) (sSeq (sAsg (sOp oIx (sV 0) (sV 4)) (gT [(gN 5), (gN 6), (gN 7)]))
    (sSeq (sAsg (sOp oDiv (sOp oMul (sOp oIx (sV 3) (sV 5)) (sV 6)) (sOp oIx (sOp oIx (sV 0) (sV 5)) (sC (.int 2)))) (gN 8))
    (sSeq (sAsg (sLc (iSeq (sV 1)) (gT [(gN 10), (gN 11)]) (sTst (sOp oEq (sV 10) (sV 4))) (sV 11) [10, 11]) (gN 9))
    (sSeq (sFrz [9] (sAsg (sLc (iSeq (sV 9)) (gN 11) (sTst (sOp oLt (sV 11) (sOp oMod (sV 8) (sV 6)))) (sV 11) [11]) (gN 12)))
    (sApp 3 (sOp oSub (sOp oSub (sV 8) (sOp oMul (sOp oDiv (sV 8) (sV 6)) (sB bLen (sCons (sV 9) sNil)))) (sB bLen (sCons (sV 12) sNil)))))))))
    (sRetV 3)))
noncomputable def f__law_steps : List PyData → R Vl Unit := runD 3 13 b__law_steps
noncomputable def b__law_pick : MS DG := (sRet (sOp oIx (sV 1) (sCallT 1 f__law_next (sCons (sV 0) (sCons (sB bLen (sCons (sV 1) sNil)) sNil)))))
noncomputable def f__law_pick : List PyData → DG → R Vl DG := runT 1 1 2 b__law_pick
noncomputable def b__law_like_0 : MS Unit := (sSeq (sIfS (sOr (sTst (sUn (oIsi 0) (sV 1))) (sTst (sUn (oIsi 1) (sV 1)))) (sSeq sNever (sSeq sNever sNever)) sNext)
    (sSeq (sIfS (sTst (sOp oNe (sUn (oIsi 2) (sV 0)) (sUn (oIsi 2) (sV 1)))) (sRet (sC (.bool false))) sNext)
    (sSeq (sIfS (sOr (sTst (sOp oNe (sUn (oIsi 3) (sV 0)) (sUn (oIsi 3) (sV 1)))) (sTst (sOp oNe (sUn (oIsi 4) (sV 0)) (sUn (oIsi 4) (sV 1))))) (sRet (sC (.bool false))) sNext)
    (sRet (sOp oEq (sV 0) (sV 1))))))
noncomputable def f__law_like_0 : List PyData → R Vl Unit := runD 2 3 b__law_like_0
noncomputable def b__law_like_1 : MS Unit := (sSeq (sIfS (sOr (sTst (sUn (oIsi 0) (sV 1))) (sTst (sUn (oIsi 1) (sV 1)))) (sSeq (sIfS (sTst (sOp oNe (sUn (oIsi 0) (sV 0)) (sUn (oIsi 0) (sV 1)))) (sRet (sC (.bool false))) sNext)
    (sSeq (sIfS (sOr (sTst (sOp oNe (sUn (oIsi 1) (sV 0)) (sUn (oIsi 1) (sV 1)))) (sTst (sOp oNe (sB bLen (sCons (sV 0) sNil)) (sB bLen (sCons (sV 1) sNil))))) (sRet (sC (.bool false))) sNext)
    (sRet (sOp oEq (sLc (iRng1 (sB bLen (sCons (sV 1) sNil))) (gN 2) (sNot (sTst (sCallP f__law_like_0 (sCons (sOp oIx (sV 0) (sV 2)) (sCons (sOp oIx (sV 1) (sV 2)) sNil))))) (sV 2) [2]) (sLst sNil))))) sNext)
    (sSeq (sIfS (sTst (sOp oNe (sUn (oIsi 2) (sV 0)) (sUn (oIsi 2) (sV 1)))) (sRet (sC (.bool false))) sNext)
    (sSeq (sIfS (sOr (sTst (sOp oNe (sUn (oIsi 3) (sV 0)) (sUn (oIsi 3) (sV 1)))) (sTst (sOp oNe (sUn (oIsi 4) (sV 0)) (sUn (oIsi 4) (sV 1))))) (sRet (sC (.bool false))) sNext)
    (sRet (sOp oEq (sV 0) (sV 1))))))
noncomputable def f__law_like_1 : List PyData → R Vl Unit := runD 2 3 b__law_like_1
noncomputable def b__law_like_2 : MS Unit := (sSeq (sIfS (sOr (sTst (sUn (oIsi 0) (sV 1))) (sTst (sUn (oIsi 1) (sV 1)))) (sSeq (sIfS (sTst (sOp oNe (sUn (oIsi 0) (sV 0)) (sUn (oIsi 0) (sV 1)))) (sRet (sC (.bool false))) sNext)
    (sSeq (sIfS (sOr (sTst (sOp oNe (sUn (oIsi 1) (sV 0)) (sUn (oIsi 1) (sV 1)))) (sTst (sOp oNe (sB bLen (sCons (sV 0) sNil)) (sB bLen (sCons (sV 1) sNil))))) (sRet (sC (.bool false))) sNext)
    (sRet (sOp oEq (sLc (iRng1 (sB bLen (sCons (sV 1) sNil))) (gN 2) (sNot (sTst (sCallP f__law_like_1 (sCons (sOp oIx (sV 0) (sV 2)) (sCons (sOp oIx (sV 1) (sV 2)) sNil))))) (sV 2) [2]) (sLst sNil))))) sNext)
    (sSeq (sIfS (sTst (sOp oNe (sUn (oIsi 2) (sV 0)) (sUn (oIsi 2) (sV 1)))) (sRet (sC (.bool false))) sNext)
    (sSeq (sIfS (sOr (sTst (sOp oNe (sUn (oIsi 3) (sV 0)) (sUn (oIsi 3) (sV 1)))) (sTst (sOp oNe (sUn (oIsi 4) (sV 0)) (sUn (oIsi 4) (sV 1))))) (sRet (sC (.bool false))) sNext)
    (sRet (sOp oEq (sV 0) (sV 1))))))
noncomputable def f__law_like_2 : List PyData → R Vl Unit := runD 2 3 b__law_like_2
noncomputable def b__law_like_3 : MS Unit := (sSeq (sIfS (sOr (sTst (sUn (oIsi 0) (sV 1))) (sTst (sUn (oIsi 1) (sV 1)))) (sSeq (sIfS (sTst (sOp oNe (sUn (oIsi 0) (sV 0)) (sUn (oIsi 0) (sV 1)))) (sRet (sC (.bool false))) sNext)
    (sSeq (sIfS (sOr (sTst (sOp oNe (sUn (oIsi 1) (sV 0)) (sUn (oIsi 1) (sV 1)))) (sTst (sOp oNe (sB bLen (sCons (sV 0) sNil)) (sB bLen (sCons (sV 1) sNil))))) (sRet (sC (.bool false))) sNext)
    (sRet (sOp oEq (sLc (iRng1 (sB bLen (sCons (sV 1) sNil))) (gN 2) (sNot (sTst (sCallP f__law_like_2 (sCons (sOp oIx (sV 0) (sV 2)) (sCons (sOp oIx (sV 1) (sV 2)) sNil))))) (sV 2) [2]) (sLst sNil))))) sNext)
    (sSeq (sIfS (sTst (sOp oNe (sUn (oIsi 2) (sV 0)) (sUn (oIsi 2) (sV 1)))) (sRet (sC (.bool false))) sNext)
    (sSeq (sIfS (sOr (sTst (sOp oNe (sUn (oIsi 3) (sV 0)) (sUn (oIsi 3) (sV 1)))) (sTst (sOp oNe (sUn (oIsi 4) (sV 0)) (sUn (oIsi 4) (sV 1))))) (sRet (sC (.bool false))) sNext)
    (sRet (sOp oEq (sV 0) (sV 1))))))
noncomputable def f__law_like_3 : List PyData → R Vl Unit := runD 2 3 b__law_like_3
noncomputable def b__law_told_BadSeen (k : Int) : MS Unit := (sSeq (sAsg (sLst (sCons (sIsE false 1) (sCons (sIsE false 1) (sCons (sIsE false 1) sNil)))) (gN 2))
    (sSeq (sAsg (sOp oAdd (sV 2) (sLst (sCons (sIsE true 1) (sCons (sIsE false 1) (sCons (sIsE false 1) sNil))))) (gN 2))
    (sSeq (sAsg (sOp oAdd (sV 2) (sLst (sCons (sIsE false 1) (sCons (sIsE false 1) (sCons (sIsE false 1) sNil))))) (gN 2))
    (sSeq (sAsg (sOp oAdd (sV 2) (sLst (sCons (sIsE false 1) (sCons (sIsE false 1) (sCons (sIsE false 1) sNil))))) (gN 2))
    (sSeq (sAsg (sOp oAdd (sV 2) (sLst (sCons (sIsE false 1) (sCons (sIsE false 1) (sCons (sIsE false 1) sNil))))) (gN 2))
    (sSeq (sApp 2 (sIsE false 1))
    (sSeq (sAsg (sLst (sCons (sC (.str "BadWorks")) (sCons (sC (.str "BadHands")) (sCons (sC (.str "BadWorn")) (sCons (sC (.str "BadSeen")) (sCons (sC (.str "BadDeed")) (sCons (sC (.str "BadBeats")) (sCons (sC (.str "NoHand")) (sCons (sC (.str "BadCalendar")) sNil))))))))) (gN 3))
    (sSeq (sAsg (sOp oAdd (sV 3) (sLst (sCons (sC (.str "BadDays")) (sCons (sC (.str "NoDate")) (sCons (sC (.str "BadYears")) (sCons (sC (.str "BadPlaces")) (sCons (sC (.str "BadLevels")) (sCons (sC (.str "BadMark")) (sCons (sC (.str "Taken")) (sCons (sC (.str "NotWorn")) sNil)))))))))) (gN 3))
    (sSeq (sAsg (sIf (sTst (sOp oEq (sLm (fCnt (.bool true)) 2) (sC (.int 1)))) (sOp oIx (sV 3) (sLm (fIdx (.bool true)) 2)) (sC (.str "other"))) (gN 4))
    (sRet (sOp oAdd (sTup (sCons (sC (.str "refused")) (sCons (sV 4) sNil))) (sIf (sTst (sOp oIn (sV 4) (sSl oSl (sV 3) sNoPart (sPart (sC (.int 5)))))) (sTup (sCons (sXf k 1) sNil)) (sTup sNil)))))))))))))
noncomputable def b_is_arbor : MS Unit := (sSeq (sAsg (sV 1) (gT [(gN 2), (gN 3), (gN 4)]))
    (sSeq (sIfS (sTst (sOp oEq (sV 0) (sC (.int 0)))) (sRet (sAndV (sOp oEq (sTup (sCons (sV 2) (sCons (sV 3) sNil))) (sTup (sCons (sC (.int 0)) (sCons (sC (.int 0)) sNil)))) (sChain oLe oLe (sC (.int 2)) (sV 4) (sC (.int 99))))) sNext)
    (sRet (sAndV (sChain oLe oLt (sC (.int 0)) (sV 2) (sV 0)) (sAndV (sChain oLe oLe (sC (.int 4)) (sV 3) (sC (.int 99))) (sChain oLe oLe (sC (.int 4)) (sV 4) (sC (.int 99))))))))
noncomputable def f_is_arbor : List PyData → R Vl Unit := runD 2 5 b_is_arbor
noncomputable def b_need_works : MS Unit := (sSeq (sIfS (sNot (sTst (sChain oLe oLe (sC (.int 1)) (sB bLen (sCons (sV 0) sNil)) (sC (.int 8))))) sNever sNext)
    (sFor (iEnum (sV 0)) (gT [(gN 1), (gN 2)]) (sIfS (sNot (sTst (sCallP f_is_arbor (sCons (sV 1) (sCons (sV 2) sNil))))) sNever sNext)))
noncomputable def f_need_works : List PyData → R Vl Unit := runD 1 3 b_need_works
noncomputable def b_is_name : MS Unit := (sRet (sAndV (sChain oLe oLe (sC (.int 1)) (sB bLen (sCons (sV 0) sNil)) (sC (.int 8))) (sOp oEq (sLc (iStr (sV 0)) (gN 1) (sTst (sOp oNotIn (sV 1) (sC (.str "abcdefghijklmnopqrstuvwxyz")))) (sV 1) [1]) (sLst sNil))))
noncomputable def f_is_name : List PyData → R Vl Unit := runD 1 2 b_is_name
noncomputable def b_need_hands : MS Unit := (sFor (iEnum (sV 1)) (gT [(gN 2), (gT [(gN 3), (gN 4), (gN 5)])]) (sSeq (sIfS (sOr (sTst (sOp oEq (sV 2) (sC (.int 8)))) (sOr (sNot (sTst (sCallP f_is_name (sCons (sV 3) sNil)))) (sTst (sOp oIn (sV 3) (sLc (iSeq (sSl oSl (sV 1) sNoPart (sPart (sV 2)))) (gN 6) sYes (sOp oIx (sV 6) (sC (.int 0))) [6]))))) sNever sNext)
    (sIfS (sOr (sNot (sTst (sChain oLe oLt (sC (.int 0)) (sV 4) (sB bLen (sCons (sV 0) sNil))))) (sNot (sTst (sChain oLe oLe (sC (.int 1)) (sV 5) (sC (.int 60)))))) sNever sNext)))
noncomputable def f_need_hands : List PyData → R Vl Unit := runD 2 7 b_need_hands
noncomputable def b_need_beats : MS Unit := (sIfS (sNot (sTst (sChain oLe oLe (sC (.int 0)) (sV 0) (sV 1)))) (sRaise "BadBeats") sNext)
noncomputable def f_need_beats : List PyData → R Vl Unit := runD 2 2 b_need_beats
noncomputable def b_need_hand : MS Unit := (sIfS (sNot (sTst (sChain oLe oLt (sC (.int 0)) (sV 1) (sB bLen (sCons (sV 0) sNil))))) (sRaise "NoHand") sNext)
noncomputable def f_need_hand : List PyData → R Vl Unit := runD 2 2 b_need_hand
noncomputable def b_need_seen : MS Unit := (sFor (iEnum (sV 1)) (gT [(gN 2), (gT [(gN 3), (gN 4), (gN 5)])]) (sSeq (sTryR ["BadBeats", "NoHand"] 6 "BadSeen" (sSeq (sDrop (sCallP (fun ds => f_need_beats (ds ++ [.int 1000000])) (sCons (sV 3) sNil)))
    (sDrop (sCallP f_need_hand (sCons (sV 0) (sCons (sV 4) sNil))))) (sV 2))
    (sIfS (sNot (sTst (sChain oLe oLt (sC (.int 0)) (sV 5) (sOp oIx (sOp oIx (sV 0) (sV 4)) (sC (.int 2)))))) (sRaiseA "BadSeen" (sV 2)) sNext)))
noncomputable def f_need_seen : List PyData → R Vl Unit := runD 2 7 b_need_seen
noncomputable def b_all_single : MS Unit := (sSeq (sAsg (sLst (sCons (sTup sNil) sNil)) (gN 1))
    (sSeq (sFor (iRng2 (sC (.int 1)) (sB bLen (sCons (sV 0) sNil))) (gN 2) (sExt 1 (sLc (iRng1 (sOp oIx (sOp oIx (sV 0) (sV 2)) (sC (.int 1)))) (gN 3) sYes (sTup (sCons (sTup (sCons (sV 2) (sCons (sV 3) sNil))) sNil)) [3])))
    (sRetV 1)))
noncomputable def f_all_single : List PyData → R Vl Unit := runD 1 4 b_all_single
noncomputable def b_mark_of : MS Unit := (sSeq (sAsg (sV 1) (gT [(gN 3), (gN 4), (gN 5)]))
    (sRet (sOp oMod (sOp oDiv (sOp oMul (sV 2) (sV 5)) (sOp oIx (sOp oIx (sV 0) (sV 4)) (sC (.int 2)))) (sV 5))))
noncomputable def f_mark_of : List PyData → R Vl Unit := runD 3 6 b_mark_of
noncomputable def b_marks_of : MS Unit := (sRet (sLc (iSeq (sV 1)) (gN 3) sYes (sCallP f_mark_of (sCons (sV 0) (sCons (sV 3) (sCons (sOp oIx (sV 2) (sOp oIx (sV 3) (sC (.int 1)))) sNil)))) [3]))
noncomputable def f_marks_of : List PyData → R Vl Unit := runD 3 4 b_marks_of
noncomputable def b_passed : MS Unit := (sSeq (sAsg (sOp oIx (sV 0) (sV 1)) (gT [(gN 3), (gN 4), (gN 5)]))
    (sRet (sOp oDiv (sOp oMul (sV 2) (sV 4)) (sOp oIx (sOp oIx (sV 0) (sV 3)) (sC (.int 2))))))
noncomputable def f_passed : List PyData → R Vl Unit := runD 3 6 b_passed
noncomputable def b_missed : MS Unit := (sRet (sB bSum (sCons (sLc (iSeq (sV 0)) (gN 4) sYes (sOp oSub (sOp oDiv (sOp oSub (sOp oSub (sOp oAdd (sV 3) (sV 1)) (sC (.int 1))) (sV 4)) (sV 1)) (sOp oDiv (sOp oSub (sOp oSub (sOp oAdd (sV 2) (sV 1)) (sC (.int 1))) (sV 4)) (sV 1))) [4]) sNil)))
noncomputable def f_missed : List PyData → R Vl Unit := runD 4 5 b_missed
noncomputable def b_worn_steps_of : MS Unit := (sSeq (sAsg (sLst (sCons (sV 2) sNil)) (gN 3))
    (sSeq (sFor (iRng2 (sC (.int 1)) (sB bLen (sCons (sV 0) sNil))) (gN 4) (sSeq (sAsg (sOp oIx (sV 0) (sV 4)) (gT [(gN 5), (gN 6), (gN 7)]))
    (sSeq (sAsg (sCallP f_passed (sCons (sV 0) (sCons (sV 4) (sCons (sOp oIx (sV 3) (sV 5)) sNil)))) (gN 8))
    (sSeq (sAsg (sLc (iSeq (sV 1)) (gT [(gN 10), (gN 11)]) (sTst (sOp oEq (sV 10) (sV 4))) (sV 11) [10, 11]) (gN 9))
    (sFrz [9] (sApp 3 (sOp oSub (sV 8) (sCallP f_missed (sCons (sV 9) (sCons (sV 6) (sCons (sC (.int 0)) (sCons (sV 8) sNil))))))))))))
    (sRetV 3)))
noncomputable def f_worn_steps_of : List PyData → R Vl Unit := runD 3 12 b_worn_steps_of
noncomputable def b_fits : MS Unit := (sSeq (sFor (iSeq (sV 3)) (gT [(gN 4), (gN 5), (gN 6)]) (sIfS (sTst (sOp oNe (sOp oIx (sCallP f_marks_of (sCons (sV 0) (sCons (sV 1) (sCons (sCallP f_worn_steps_of (sCons (sV 0) (sCons (sV 2) (sCons (sV 4) sNil)))) sNil)))) (sV 5)) (sV 6))) (sRet (sC (.bool false))) sNext))
    (sRet (sC (.bool true))))
noncomputable def f_fits : List PyData → R Vl Unit := runD 4 7 b_fits
noncomputable def b_suspects : MS Unit := (sSeq (sDrop (sCallP f_need_works (sCons (sV 0) sNil)))
    (sSeq (sDrop (sCallP f_need_hands (sCons (sV 0) (sCons (sV 1) sNil))))
    (sSeq (sDrop (sCallP f_need_seen (sCons (sV 1) (sCons (sV 2) sNil))))
    (sRet (sLc (iSeq (sCallP f_all_single (sCons (sV 0) sNil))) (gN 3) (sTst (sCallP f_fits (sCons (sV 0) (sCons (sV 1) (sCons (sV 3) (sCons (sV 2) sNil)))))) (sV 3) [3])))))
noncomputable def f_suspects : List PyData → R Vl Unit := runD 3 4 b_suspects
noncomputable def b_law : MS DG := (sSeq (sAsg (sCallT 0 f__law_dice (sCons (sV 0) sNil)) (gN 1))
    (sSeq (sFor (iRng1 (sC (.int 3))) (gN 2) (sSeq (sAsg (sCallT 1 f__law_works (sCons (sV 1) (sCons (sC (.int 4)) (sCons (sC (.int 14)) sNil)))) (gN 3))
    (sSeq (sAsg (sB bTuple (sCons (sLc (iRng1 (sB bLen (sCons (sV 3) sNil))) (gN 5) sYes (sTup (sCons (sOp oAdd (sC (.str "h")) (sOp oIx (sC (.str "abcd")) (sV 5))) (sCons (sV 5) (sCons (sOp oAdd (sC (.int 1)) (sCallT 1 f__law_next (sCons (sV 1) (sCons (sC (.int 30)) sNil)))) sNil)))) [5]) sNil)) (gN 4))
    (sSeq (sPar3 6 7 8 (sCons (sCallT 1 f__law_worn (sCons (sV 1) (sCons (sV 3) (sCons (sC (.int 2)) sNil)))) (sCons (sLst sNil) (sCons (sC .none) sNil))))
    (sSeq (sFor (iRng1 (sCallT 1 f__law_next (sCons (sV 1) (sCons (sC (.int 9)) sNil)))) (gN 5) (sSeq (sPar 9 10 (sCons (sCallT 1 f__law_next (sCons (sV 1) (sCons (sOp oIx (sLst (sCons (sC (.int 60)) (sCons (sC (.int 3000)) sNil))) (sCallT 1 f__law_next (sCons (sV 1) (sCons (sC (.int 2)) sNil)))) sNil))) (sCons (sCallT 1 f__law_next (sCons (sV 1) (sCons (sB bLen (sCons (sV 4) sNil)) sNil))) sNil)))
    (sSeq (sAsg (sOp oIx (sCallP f__law_marks (sCons (sV 3) (sCons (sV 4) (sCons (sCallP f__law_steps (sCons (sV 3) (sCons (sV 6) (sCons (sV 9) sNil)))) sNil)))) (sV 10)) (gN 11))
    (sSeq (sAsg (sIf (sTst (sOp oEq (sCallT 1 f__law_next (sCons (sV 1) (sCons (sC (.int 12)) sNil))) (sC (.int 0)))) (sCallT 1 f__law_next (sCons (sV 1) (sCons (sOp oIx (sOp oIx (sV 4) (sV 10)) (sC (.int 2))) sNil))) (sV 11)) (gN 11))
    (sSeq (sIfS (sTst (sOp oEq (sCallT 1 f__law_next (sCons (sV 1) (sCons (sC (.int 15)) sNil))) (sC (.int 0)))) (sSeq (sAsg (sIf (sTst (sOp oIsN (sV 8) (sC .none))) (sV 5) (sV 8)) (gN 8))
    (sSeq (sAsg (sLst (sCons (sTup (sCons (sUn oNeg (sC (.int 1))) (sCons (sV 10) (sCons (sV 11) sNil)))) (sCons (sTup (sCons (sV 9) (sCons (sB bLen (sCons (sV 4) sNil)) (sCons (sV 11) sNil)))) (sCons (sTup (sCons (sV 9) (sCons (sV 10) (sCons (sOp oIx (sOp oIx (sV 4) (sV 10)) (sC (.int 2))) sNil)))) sNil)))) (gN 12))
    (sSeq (sAsg (sOp oAdd (sV 12) (sLst (sCons (sTup (sCons (sV 9) (sCons (sUn oNeg (sC (.int 1))) (sCons (sC (.int 0)) sNil)))) (sCons (sTup (sCons (sC (.int 1000001)) (sCons (sV 10) (sCons (sV 11) sNil)))) (sCons (sTup (sCons (sV 9) (sCons (sV 10) (sCons (sUn oNeg (sC (.int 1))) sNil)))) sNil))))) (gN 12))
    (sFrz [12] (sAsg (sCallT 1 f__law_pick (sCons (sV 1) (sCons (sV 12) sNil))) (gT [(gN 9), (gN 10), (gN 11)])))))) sNext)
    (sApp 7 (sTup (sCons (sV 9) (sCons (sV 10) (sCons (sV 11) sNil))))))))))
    (sSeq (sAsg (sLst (sCons (sTup sNil) sNil)) (gN 13))
    (sSeq (sFor (iRng2 (sC (.int 1)) (sB bLen (sCons (sV 3) sNil))) (gN 14) (sAsg (sOp oAdd (sV 13) (sLc (iRng1 (sOp oIx (sOp oIx (sV 3) (sV 14)) (sC (.int 1)))) (gN 15) sYes (sTup (sCons (sTup (sCons (sV 14) (sCons (sV 15) sNil))) sNil)) [15])) (gN 13)))
    (sSeq (sAsg (sLst sNil) (gN 16))
    (sSeq (sFrz [13] (sFor (iSeq (sIf (sTst (sOp oIsN (sV 8) (sC .none))) (sV 13) (sLst sNil))) (gN 17) (sSeq (sFrz [7] (sAsg (sLc (iSeq (sV 7)) (gN 19) sYes (sOp oIx (sCallP f__law_marks (sCons (sV 3) (sCons (sV 4) (sCons (sCallP f__law_steps (sCons (sV 3) (sCons (sV 17) (sCons (sOp oIx (sV 19) (sC (.int 0))) sNil)))) sNil)))) (sOp oIx (sV 19) (sC (.int 1)))) [19]) (gN 18)))
    (sFrz [7] (sAsg (sOp oAdd (sV 16) (sOp oMul (sLst (sCons (sV 17) sNil)) (sB bInt (sCons (sOp oEq (sV 18) (sLc (iSeq (sV 7)) (gN 19) sYes (sOp oIx (sV 19) (sC (.int 2))) [19])) sNil)))) (gN 16))))))
    (sSeq (sFrz [16] (sAsg (sIf (sTst (sOp oIsN (sV 8) (sC .none))) (sV 16) (sTup (sCons (sC (.str "refused")) (sCons (sC (.str "BadSeen")) (sCons (sV 8) sNil))))) (gN 16)))
    (sFrz [7, 16] (sIfS (sNot (sTst (sCallP f__law_like_3 (sCons (sToldA ns_told na_told (sCallP f_suspects (sCons (sV 3) (sCons (sV 4) (sCons (sV 7) sNil))))) (sCons (sV 16) sNil))))) (sRet (sC (.bool false))) sNext))))))))))))
    (sRet (sC (.bool true)))))
noncomputable def f_law : List PyData → DG → R Vl DG := runT 0 0 20 b_law
def Out.after {G : Type} (Post : Out G → Prop) (I : CW.Env → G → Prop) : Out G → Prop
  | .nx r g => I r g
  | .ct r g => I r g
  | .bk r g => Post (.nx r g)
  | o => Post o
theorem forGo_post {G : Type} {tg : MG} {b : MS G} (Post : Out G → Prop) (I : Nat → CW.Env → G → Prop) (n : Nat) : ∀ (items : List PyData) (r : CW.Env) (g : G), I n r g →
    (∀ i d r g, items[i]? = some d → I (n + i) r g → ∃ r1, tg (.dat d) r = some r1 ∧ Out.after Post (I (n + i + 1)) (b r1 g)) → (∀ r g, I (n + items.length) r g → Post (.nx r g)) → Post (forGo tg b items r g)
  | [], r, g, h0, _, hd => hd r g h0
  | x :: xs, r, g, h0, hs, hd => by
    obtain ⟨r1, h1, h2⟩ := hs 0 x r g rfl h0
    unfold forGo
    rw [h1]
    have step : ∀ r g, I (n + 1) r g → Post (forGo tg b xs r g) := fun r g h => by
      refine forGo_post Post I (n + 1) xs r g h (fun i d r g hi hI => ?_) (fun r g hI => ?_)
      · have := hs (i + 1) d r g (by simpa using hi) (by rw [show n + (i + 1) = n + 1 + i by omega]; exact hI)
        rw [show n + (i + 1) + 1 = n + 1 + i + 1 by omega] at this
        exact this
      · exact hd r g (by rw [List.length_cons, show n + (xs.length + 1) = n + 1 + xs.length by omega]; exact hI)
    cases hb : b r1 g with
    | nx r2 g2 => rw [hb] at h2; simp only [hb]; exact step r2 g2 h2
    | ct r2 g2 => rw [hb] at h2; simp only [hb]; exact step r2 g2 h2
    | bk r2 g2 => rw [hb] at h2; simp only [hb]; exact h2
    | rt v g2 => rw [hb] at h2; simp only [hb]; exact h2
    | er e r2 g2 => rw [hb] at h2; simp only [hb]; exact h2
    | no => rw [hb] at h2; simp only [hb]; exact h2
/-- .. from the first turn -/
theorem for_post {G : Type} {tg : MG} {b : MS G} (Post : Out G → Prop) (I : Nat → CW.Env → G → Prop) (items : List PyData) (r : CW.Env) (g : G) (h0 : I 0 r g)
    (hs : ∀ i d r g, items[i]? = some d → I i r g → ∃ r1, tg (.dat d) r = some r1 ∧ Out.after Post (I (i + 1)) (b r1 g)) (hd : ∀ r g, I items.length r g → Post (.nx r g)) : Post (forGo tg b items r g) :=
  forGo_post Post I 0 items r g h0 (fun i d r g h hI => by rw [Nat.zero_add] at hI; have := hs i d r g h hI; rw [Nat.zero_add]; exact this) (fun r g h => hd r g (by rw [Nat.zero_add] at h; exact h))
/-- a comprehension whose turns are known -/
theorem lc_map {G : Type} {r : CW.Env} {tg : MG} {tt : MT G} {e : ME G} (f : PyData → PyData) : ∀ (items acc : List PyData) (g : G),
    (∀ d ∈ items, ∃ r1, tg (.dat d) r = some r1 ∧ tt r1 g = .ok true g ∧ e r1 g = .ok (.dat (f d)) g) → lcGo r tg tt e items acc g = .ok (acc ++ items.map f) g
  | [], acc, g, _ => by simp [lcGo]
  | x :: xs, acc, g, h => by
    obtain ⟨r1, h1, h2, h3⟩ := h x List.mem_cons_self
    unfold lcGo
    rw [h1]
    simp only [h2, h3, Vl.frz]
    rw [lc_map f xs (acc ++ [f x]) g fun d hd => h d (List.mem_cons_of_mem _ hd)]
    simp
theorem lc_filter {G : Type} {r : CW.Env} {tg : MG} {tt : MT G} {e : ME G} (p : PyData → Bool) (f : PyData → PyData) : ∀ (items acc : List PyData) (g : G),
    (∀ d ∈ items, ∃ r1, tg (.dat d) r = some r1 ∧ tt r1 g = .ok (p d) g ∧ (p d = true → e r1 g = .ok (.dat (f d)) g)) → lcGo r tg tt e items acc g = .ok (acc ++ (items.filter p).map f) g
  | [], acc, g, _ => by simp [lcGo]
  | x :: xs, acc, g, h => by
    obtain ⟨r1, h1, h2, h3⟩ := h x List.mem_cons_self
    have ih := fun acc => lc_filter p f xs acc g fun d hd => h d (List.mem_cons_of_mem _ hd)
    unfold lcGo
    rw [h1]
    cases hp : p x with
    | true => simp only [h2, hp, h3 hp, Vl.frz]; rw [ih]; simp [hp]
    | false => simp only [h2, hp]; rw [ih]; simp [hp]
theorem lc_filterE {G A : Type} {g : G} (enc : A → PyData) (p : A → Bool) (f : A → PyData) : ∀ (L : List A) (acc : List PyData) (r : CW.Env) (tg : MG) (tt : MT G) (e : ME G),
    (∀ a ∈ L, ∃ r1, tg (.dat (enc a)) r = some r1 ∧ tt r1 g = .ok (p a) g ∧ (p a = true → ∃ v, e r1 g = .ok v g ∧ v.frz = some (f a))) → lcGo r tg tt e (L.map enc) acc g = .ok (acc ++ (L.filter p).map f) g
  | [], acc, r, tg, tt, e, _ => by simp [lcGo]
  | x :: xs, acc, r, tg, tt, e, h => by
    obtain ⟨r1, h1, h2, h3⟩ := h x List.mem_cons_self
    have ih := fun acc => lc_filterE enc p f xs acc r tg tt e fun d hd => h d (List.mem_cons_of_mem _ hd)
    rw [List.map_cons]
    unfold lcGo
    rw [h1]
    cases hp : p x with
    | true =>
      obtain ⟨v, h4, h5⟩ := h3 hp
      simp only [h2, hp, h4, h5]
      rw [ih]
      simp [hp]
    | false => simp only [h2, hp]; rw [ih]; simp [hp]
theorem lc_mapE {G A : Type} {g : G} (enc : A → PyData) (f : A → PyData) (L : List A) (r : CW.Env) (tg : MG) (tt : MT G) (e : ME G)
    (h : ∀ a ∈ L, ∃ r1, tg (.dat (enc a)) r = some r1 ∧ tt r1 g = .ok true g ∧ ∃ v, e r1 g = .ok v g ∧ v.frz = some (f a)) : lcGo r tg tt e (L.map enc) [] g = .ok (L.map f) g := by
  rw [lc_filterE enc (fun _ => true) f L [] r tg tt e fun a ha => by
    obtain ⟨r1, h1, h2, h3⟩ := h a ha
    exact ⟨r1, h1, h2, fun _ => h3⟩]
  rw [List.filter_eq_self.mpr fun _ _ => rfl, List.nil_append]
theorem enum_at {l : List PyData} {i : Nat} {d : PyData} (h : (enumL 0 l)[i]? = some d) : ∃ e, l[i]? = some e ∧ d = .tuple [.int (i : Nat), e] := by
  have key : ∀ (l : List PyData) (k i : Nat) (d : PyData), (enumL k l)[i]? = some d → ∃ e, l[i]? = some e ∧ d = .tuple [.int ((k + i : Nat) : Int), e] := by
    intro l
    induction l with
    | nil => intro k i d h; simp at h
    | cons x xs ih =>
      intro k i d h
      cases i with
      | zero => simp at h; exact ⟨x, rfl, by rw [← h]; simp⟩
      | succ i =>
        obtain ⟨e, h1, h2⟩ := ih (k + 1) i d (by simpa using h)
        exact ⟨e, by simpa using h1, by rw [h2, show k + 1 + i = k + (i + 1) by omega]⟩
  have := key l 0 i d h
  simpa using this
theorem enum_len (l : List PyData) (k : Nat) : (enumL k l).length = l.length := by
  induction l generalizing k with
  | nil => rfl
  | cons x xs ih => simp [ih]
theorem rng_at {a : Int} {n i : Nat} {d : PyData} (h : (rngL a n)[i]? = some d) : i < n ∧ d = .int (a + (i : Nat)) := by
  unfold rngL at h
  rw [List.getElem?_map] at h
  by_cases hi : i < n
  · rw [List.getElem?_range hi] at h
    exact ⟨hi, (Option.some.inj h).symm⟩
  · rw [List.getElem?_eq_none (by simpa using hi)] at h
    cases h
theorem rng_len {a : Int} {n : Nat} : (rngL a n).length = n := by simp [rngL]
theorem rng1_ok {G : Type} {e : ME G} {r : CW.Env} {g g1 : G} {j : Int} {n : Nat} (h : e r g = .ok (.dat (.int j)) g1) (h0 : -100000000 ≤ j) (h1 : j ≤ 100000000) (hn : j.toNat = n) : iRng1 e r g = .ok (rngL 0 n) g1 := by
  subst hn
  simp [h, h0, h1]
theorem small_of {a : Int} (h1 : -1000000000000000000000000000000000000 ≤ a) (h2 : a ≤ 1000000000000000000000000000000000000) : small a = true := by
  unfold small
  rw [BIG_eq]
  simp
  omega
def Ready (g : DG) : Prop := g.ns.length ≤ 63 ∧ ∃ p m h : Int, g.d = some (p, m, h) ∧ 0 ≤ p ∧ 0 ≤ m ∧ m ≤ 2147483647
theorem next_ok {g : DG} (rd : Ready g) {many : Int} (h0 : 0 < many) (h1 : many ≤ 10000000) : ∃ k g', f__law_next [.int many] g = .ok (.dat (.int k)) g' ∧ 0 ≤ k ∧ k < many ∧ Ready g' := by
  obtain ⟨hl, p, m, h, hg, hp, hm, hm2⟩ := rd
  have hb : many < BIG := by rw [BIG_eq]; omega
  have mod0 : ∀ x : Int, 0 ≤ x % many ∧ x % many < many := fun x => ⟨Int.emod_nonneg x (by omega), Int.emod_lt_of_pos x h0⟩
  simp only [f__law_next, runT, b__law_next, List.length_cons, List.length_nil, if_true]
  by_cases c1 : 0 < h
  · refine ⟨h % many, { g with d := some (p, m, h / many) }, ?_, (mod0 h).1, (mod0 h).2, hl, p, m, h / many, rfl, hp, hm, hm2⟩
    simp [hg, c1, h0, hb]
  · simp only [sSeq, sIfS, sTst, sOp, sDIx, envOfT, hg, R.bind, R.out, oGt, sC, lift, c1, decide_false, sNext, List.map_cons, List.map_nil, List.cons_append, List.nil_append, List.getElem?_cons_zero]
    by_cases c2 : p + 1 ≤ (g.ns.length : Int)
    · have hlt : p.toNat < g.ns.length := by omega
      have hz : g.ns[p.toNat]? = some g.ns[p.toNat] := List.getElem?_eq_getElem hlt
      have e1 : p + 1 - 1 = p := by omega
      by_cases c3 : (1000000000000000000 : Int) ≤ g.ns[p.toNat]
      · refine ⟨g.ns[p.toNat] % many, { g with d := some (p + 1, m, g.ns[p.toNat] / many) }, ?_, (mod0 _).1, (mod0 _).2, hl, _, _, _, rfl, by omega, hm, hm2⟩
        simp [hg, c2, e1, hp, hz, h0, hb, c3]
      · refine ⟨g.ns[p.toNat] % many, { g with d := some (p + 1, m, 0) }, ?_, (mod0 _).1, (mod0 _).2, hl, _, _, _, rfl, by omega, hm, hm2⟩
        simp [hg, c2, e1, hp, hz, h0, hb, c3]
    · have hs1 : small m = true := small_of (by omega) (by omega)
      have hs2 : small 48271 = true := small_of (by decide) (by decide)
      have hm3 := Int.emod_nonneg (m * 48271) (show (2147483647 : Int) ≠ 0 by decide)
      have hm4 := Int.emod_lt_of_pos (m * 48271) (show (0 : Int) < 2147483647 by decide)
      refine ⟨m * 48271 % 2147483647 / 7 % many, { g with d := some (p + 1, m * 48271 % 2147483647, h) }, ?_, (mod0 _).1, (mod0 _).2, hl, _, _, _, rfl, by omega, hm3, by omega⟩
      have hb7 : (7 : Int) < BIG := by rw [BIG_eq]; decide
      simp [hg, c2, hs1, hs2, h0, hb, hb7]
def nxThen {G : Type} (Post : Out G → Prop) (b : MS G) : Out G → Prop
  | .nx r g => Post (b r g)
  | o => Post o
theorem seq_post {G : Type} {Post : Out G → Prop} {a b : MS G} {r : CW.Env} {g : G} (h : nxThen Post b (a r g)) : Post (sSeq a b r g) := by
  unfold sSeq
  cases ha : a r g <;> rw [ha] at h <;> exact h
def RPost {G : Type} (P : Vl → G → Prop) : Out G → Prop
  | .rt (.dat d) g => P (.dat d) g
  | .rt (.own l) g => P (.own l) g
  | .rt (.tok n) g => P (.tok n) g
  | .nx _ g => P (.dat .none) g
  | _ => False
theorem runT_post {G : Type} {P : Vl → G → Prop} {n0 k n : Nat} {m : MS G} {ds : List PyData} {g : G} (hk : ds.length = k) (h : RPost P (m (envOfT n0 n ds) g)) : ∃ v g', runT n0 k n m ds g = .ok v g' ∧ P v g' := by
  unfold runT
  rw [if_pos hk]
  cases ho : m (envOfT n0 n ds) g with
  | rt v g' =>
    rw [ho] at h
    cases v with
    | lent l => exact h.elim
    | dat d => exact ⟨_, _, rfl, h⟩
    | own d => exact ⟨_, _, rfl, h⟩
    | tok d => exact ⟨_, _, rfl, h⟩
  | nx r g' => rw [ho] at h; exact ⟨_, _, rfl, h⟩
  | bk r g' => rw [ho] at h; exact h.elim
  | ct r g' => rw [ho] at h; exact h.elim
  | er e r g' => rw [ho] at h; exact h.elim
  | no => rw [ho] at h; exact h.elim
theorem runD_post {P : Vl → Unit → Prop} {k n : Nat} {m : MS Unit} {ds : List PyData} (hk : ds.length = k) (h : RPost P (m (envOf n ds) ())) (ht : ∀ n, ¬ P (.tok n) ()) : ∃ v, runD k n m ds = .ok v () ∧ P v () := by
  unfold runD
  rw [if_pos hk]
  cases ho : m (envOf n ds) () with
  | rt v g' =>
    rw [ho] at h
    cases v with
    | lent l => exact h.elim
    | dat d => exact ⟨_, rfl, h⟩
    | own d => exact ⟨_, rfl, h⟩
    | tok d => exact (ht d h).elim
  | nx r g' => rw [ho] at h; exact ⟨_, rfl, h⟩
  | bk r g' => rw [ho] at h; exact h.elim
  | ct r g' => rw [ho] at h; exact h.elim
  | er e r g' => rw [ho] at h; exact h.elim
  | no => rw [ho] at h; exact h.elim
/-- .. of a known answer -/
theorem runD_is {v : Vl} {k n : Nat} {m : MS Unit} {ds : List PyData} (hk : ds.length = k) (hv : ∀ n, v ≠ .tok n) (h : RPost (fun w _ => w = v) (m (envOf n ds) ())) : runD k n m ds = .ok v () := by
  obtain ⟨w, h1, h2⟩ := runD_post hk h (fun n e => hv n e.symm)
  rw [h1, h2]
theorem dice_ok (ns : List Int) (hl : ns.length ≤ 63) : ∃ g', f__law_dice [] ⟨ns, none⟩ = .ok (.tok 1) g' ∧ Ready g' := by
  have key : ∃ v g', f__law_dice [] ⟨ns, none⟩ = .ok v g' ∧ (v = .tok 1 ∧ Ready g') := by
    unfold f__law_dice
    refine runT_post rfl ?_
    unfold b__law_dice
    refine seq_post ?_
    simp only [sAsg, sC, R.out, gN, nxThen, envOfT, List.map_nil, List.nil_append, List.length_nil, List.cons_append]
    refine seq_post ?_
    simp only [sFor, iDScr, R.out]
    refine for_post _ (fun _ r g => g = ⟨ns, none⟩ ∧ ∃ m x, r = [some (.tok 0), some (.dat (.int m)), x] ∧ 0 ≤ m ∧ m ≤ 2147483647) _ _ _ ⟨rfl, 0, none, rfl, by decide, by decide⟩ ?_ ?_
    · rintro i d r g hd ⟨rfl, m, x, rfl, h0, h1⟩
      rw [List.getElem?_map] at hd
      cases hn : ns[i]? with
      | none => rw [hn] at hd; cases hd
      | some n =>
        rw [hn] at hd
        cases hd
        refine ⟨[some (.tok 0), some (.dat (.int m)), some (.dat (.int n))], rfl, ?_⟩
        have s1 : small m = true := small_of (by omega) (by omega)
        have s2 : small 48271 = true := small_of (by decide) (by decide)
        have s3 : small 69621 = true := small_of (by decide) (by decide)
        have q1 := Int.emod_nonneg n (show (2147483647 : Int) ≠ 0 by decide)
        have q2 := Int.emod_lt_of_pos n (show (0 : Int) < 2147483647 by decide)
        have s4 : small (n % 2147483647) = true := small_of (by omega) (by omega)
        have q3 := Int.emod_nonneg (m * 48271 + n % 2147483647 * 69621 + 11) (show (2147483647 : Int) ≠ 0 by decide)
        have q4 := Int.emod_lt_of_pos (m * 48271 + n % 2147483647 * 69621 + 11) (show (0 : Int) < 2147483647 by decide)
        simp [s1, s2, s3, s4, Out.after]
        omega
    · rintro r g ⟨rfl, m, x, rfl, h0, h1⟩
      have s1 : small m = true := small_of (by omega) (by omega)
      by_cases h : (2 : Int) < (ns.length : Int)
      · have s2 : small 1 = true := small_of (by decide) (by decide)
        simp [nxThen, h, s1, s2, RPost]
        exact ⟨hl, 0, m, 0, rfl, by decide, h0, h1⟩
      · have s2 : small 0 = true := small_of (by decide) (by decide)
        simp [nxThen, h, s1, s2, RPost]
        exact ⟨hl, 0, 0, 0, rfl, by decide, by decide, by decide⟩
  obtain ⟨v, g', h1, h2, h3⟩ := key
  exact ⟨g', by rw [h1, h2], h3⟩
theorem seq_gen {G : Type} {Post : Out G → Prop} {a b : MS G} {r : CW.Env} {g : G} (h : ∀ t, t = b → nxThen Post t (a r g)) : Post (sSeq a b r g) := seq_post (h b rfl)
theorem for_in {G : Type} {it : MI G} {tg : MG} {b : MS G} {Post : Out G → Prop} (I : Nat → CW.Env → G → Prop) {items : List PyData} {r : CW.Env} {g g1 : G} (hit : it r g = .ok items g1) (h0 : I 0 r g1)
    (hs : ∀ i d r g, items[i]? = some d → I i r g → ∃ r1, tg (.dat d) r = some r1 ∧ Out.after Post (I (i + 1)) (b r1 g)) (hd : ∀ r g, I items.length r g → Post (.nx r g)) : Post (sFor it tg b r g) := by
  unfold sFor
  rw [hit]
  exact for_post Post I items r g1 h0 hs hd
theorem ifS_gen {G : Type} {Post : Out G → Prop} {t : MT G} {a b : MS G} {r : CW.Env} {g : G} (h : ∀ a' b', a' = a → b' = b → Post (sIfS t a' b' r g)) : Post (sIfS t a b r g) := h a b rfl rfl
theorem nx_gen {G : Type} {Post : Out G → Prop} {t : MS G} {r : CW.Env} {g : G} (h : Post (t r g)) : nxThen Post t (.nx r g) := h
@[simp] theorem atI_0 (x : PyData) (l : List PyData) : atI (x :: l) 0 = some x := by simp [atI, atN]
@[simp] theorem atI_1 (x y : PyData) (l : List PyData) : atI (x :: y :: l) 1 = some y := by
  have h : (1 : Int) < ((l.length + 1 + 1 : Nat) : Int) := by omega
  unfold atI atN
  rw [if_pos (by decide), if_pos (by simpa using h)]
  rfl
@[simp] theorem atI_2 (x y z : PyData) (l : List PyData) : atI (x :: y :: z :: l) 2 = some z := by
  have h : (2 : Int) < ((l.length + 1 + 1 + 1 : Nat) : Int) := by omega
  unfold atI atN
  rw [if_pos (by decide), if_pos (by simpa using h)]
  rfl
theorem atI_nat' {l : List PyData} {i : Int} {d : PyData} (h0 : 0 ≤ i) (h : l[i.toNat]? = some d) : atI l i = some d := by
  have hl : i.toNat < l.length := (List.getElem?_eq_some_iff.mp h).1
  unfold atI atN
  rw [if_pos h0, if_pos (by omega)]
  exact h
theorem get_snoc {A : Type} {l : List A} {x y : A} {i : Nat} (h : (l ++ [x])[i]? = some y) : (i < l.length ∧ l[i]? = some y) ∨ (i = l.length ∧ x = y) := by
  by_cases hi : i < l.length
  · rw [List.getElem?_append_left hi] at h
    exact .inl ⟨hi, h⟩
  · rw [List.getElem?_append_right (by omega)] at h
    cases hz : i - l.length with
    | zero => rw [hz] at h; simp at h; exact .inr ⟨by omega, h⟩
    | succ k => rw [hz] at h; simp at h
theorem snoc_old {A : Type} {l : List A} {x y : A} {i : Nat} (h : l[i]? = some y) : (l ++ [x])[i]? = some y := by
  rw [List.getElem?_append_left (List.getElem?_eq_some_iff.mp h).1]
  exact h
abbrev encI (ms : List Int) : List PyData := ms.map PyData.int
theorem encI_get {ms : List Int} {i : Int} {m : Int} (h0 : 0 ≤ i) (h : ms[i.toNat]? = some m) : atI (encI ms) i = some (.int m) := atI_nat' h0 (by rw [List.getElem?_map, h]; rfl)

abbrev Arb := Int × Int × Int
def encA (a : Arb) : PyData := .tuple [.int a.1, .int a.2.1, .int a.2.2]
def encW (w : List Arb) : PyData := .tuple (w.map encA)
def isArb (n : Int) (a : Arb) : Bool := if n = 0 then (a.1 == 0 && a.2.1 == 0) && (decide (2 ≤ a.2.2) && decide (a.2.2 ≤ 99)) else
  (decide (0 ≤ a.1) && decide (a.1 < n)) && ((decide (4 ≤ a.2.1) && decide (a.2.1 ≤ 99)) && (decide (4 ≤ a.2.2) && decide (a.2.2 ≤ 99)))
theorem is_arbor_eq (n : Int) (a : Arb) : f_is_arbor [.int n, encA a] = .ok (.dat (.bool (isArb n a))) () := by
  obtain ⟨s, d, t⟩ := a
  by_cases h : n = 0
  · subst h
    simp [f_is_arbor, b_is_arbor, encA, isArb]
    by_cases h1 : s = 0 ∧ d = 0
    · simp [h1]
      by_cases h2 : 2 ≤ t <;> simp [h2]
    · simp [h1]
  · simp [f_is_arbor, b_is_arbor, encA, isArb, h]
    by_cases h1 : 0 ≤ s <;> simp [h1]
    by_cases h2 : s < n <;> simp [h2]
    by_cases h3 : 4 ≤ d <;> simp [h3]
    by_cases h4 : d ≤ 99 <;> simp [h4]
    by_cases h5 : 4 ≤ t <;> simp [h5]
/-- works that can be -/
def GoodW (w : List Arb) : Prop := 1 ≤ w.length ∧ w.length ≤ 8 ∧ ∀ (i : Nat) (a : Arb), w[i]? = some a → isArb (i : Nat) a = true
theorem encW_at {w : List Arb} {i : Nat} {d : PyData} (h : (w.map encA)[i]? = some d) : ∃ a, w[i]? = some a ∧ d = encA a := by
  rw [List.getElem?_map] at h
  cases ha : w[i]? with
  | none => rw [ha] at h; cases h
  | some a => rw [ha] at h; exact ⟨a, rfl, (Option.some.inj h).symm⟩
theorem need_works_eq {w : List Arb} (h : GoodW w) : f_need_works [encW w] = .ok (.dat .none) () := by
  obtain ⟨h1, h2, h3⟩ := h
  unfold f_need_works
  refine runD_is rfl (fun n e => nomatch e) ?_
  unfold b_need_works
  refine seq_post ?_
  have l1 : (1 : Int) ≤ (w.length : Int) := by omega
  have l2 : (w.length : Int) ≤ 8 := by omega
  simp [encW, l1, l2, nxThen]
  refine for_post _ (fun _ r _ => ∃ x y, r = [some (.dat (encW w)), x, y]) _ _ _ ⟨none, none, rfl⟩ ?_ ?_
  · rintro i d r g hd ⟨x, y, rfl⟩
    obtain ⟨e, he, rfl⟩ := enum_at hd
    obtain ⟨a, ha, rfl⟩ := encW_at he
    refine ⟨[some (.dat (encW w)), some (.dat (.int (i : Nat))), some (.dat (encA a))], by simp [encW], ?_⟩
    simp [is_arbor_eq, h3 i a ha, Out.after]
  · rintro r g ⟨x, y, rfl⟩
    simp [RPost]
def zA : Arb := (0, 0, 1)
/-- steps of one more arbor -/
def pass (w : List Arb) (a : Arb) (m : Int) : Int := m * a.2.1 / (w.getD a.1.toNat zA).2.2
theorem GoodW.arb {w : List Arb} (h : GoodW w) {i : Nat} {a : Arb} (ha : w[i]? = some a) (hi : 0 < i) : 0 ≤ a.1 ∧ a.1 < (i : Int) ∧ 4 ≤ a.2.1 ∧ a.2.1 ≤ 99 ∧ 4 ≤ a.2.2 ∧ a.2.2 ≤ 99 := by
  have := h.2.2 i a ha
  have hn : ¬ i = 0 := by omega
  simp [isArb, hn] at this
  omega
theorem GoodW.first {w : List Arb} (h : GoodW w) {a : Arb} (ha : w[0]? = some a) : a.1 = 0 ∧ a.2.1 = 0 ∧ 2 ≤ a.2.2 ∧ a.2.2 ≤ 99 := by
  have := h.2.2 0 a ha
  simp [isArb] at this
  omega
theorem GoodW.turn {w : List Arb} (h : GoodW w) {i : Nat} {a : Arb} (ha : w[i]? = some a) : 2 ≤ a.2.2 ∧ a.2.2 ≤ 99 := by
  cases i with
  | zero => have := h.first ha; omega
  | succ i => have := h.arb ha (Nat.succ_pos i); omega
theorem encW_get {w : List Arb} {i : Int} {a : Arb} (h0 : 0 ≤ i) (h : w[i.toNat]? = some a) : atI (w.map encA) i = some (encA a) := atI_nat' h0 (by rw [List.getElem?_map, h]; rfl)
theorem GoodW.push {w : List Arb} (h : GoodW w) {a : Arb} (hl : w.length < 8) (ha : isArb (w.length : Nat) a = true) : GoodW (w ++ [a]) := by
  refine ⟨by simp, by simp; omega, fun i b hb => ?_⟩
  by_cases hi : i < w.length
  · rw [List.getElem?_append_left hi] at hb
    exact h.2.2 i b hb
  · rw [List.getElem?_append_right (by omega)] at hb
    have hz : i - w.length = 0 := by
      have := (List.getElem?_eq_some_iff.mp hb).1
      simp at this
      omega
    rw [hz] at hb
    simp at hb
    subst hb
    rwa [show i = w.length by omega]
theorem works_ok {g : DG} (rd : Ready g) {u t : Int} (hu : 0 < u) (hu8 : u ≤ 8) (ht : 4 ≤ t) (ht9 : t ≤ 99) : ∃ v g', f__law_works [.int u, .int t] g = .ok v g' ∧ ∃ w, v = .dat (encW w) ∧ GoodW w ∧ (w.length : Int) ≤ u ∧ Ready g' := by
  unfold f__law_works
  refine runT_post rfl ?_
  unfold b__law_works
  obtain ⟨k1, g1, e1, a1, b1, rd1⟩ := next_ok rd (many := 2) (by decide) (by decide)
  have hc : ∃ c, atI [.int 9, .int 98] k1 = some (.int c) ∧ 0 < c ∧ c ≤ 98 := by
    have : k1 = 0 ∨ k1 = 1 := by omega
    rcases this with rfl | rfl
    · exact ⟨9, rfl, by decide, by decide⟩
    · exact ⟨98, rfl, by decide, by decide⟩
  obtain ⟨c, hc, c0, c1⟩ := hc
  obtain ⟨k2, g2, e2, a2, b2, rd2⟩ := next_ok rd1 (many := c) c0 (by omega)
  obtain ⟨k3, g3, e3, a3, b3, rd3⟩ := next_ok rd2 (many := u) hu (by omega)
  refine seq_gen fun t0 ht0 => ?_
  simp [envOfT, e1, hc, e2, nxThen]
  subst ht0
  refine seq_post ?_
  refine for_in (items := rngL 1 k3.toNat) (g1 := g3) (fun i r g => Ready g ∧ ∃ w x, r = [some (.tok 1), some (.dat (.int u)), some (.dat (.int t)), some (.own (w.map encA)), x] ∧ w.length = i + 1 ∧ GoodW w) ?_ ?_ ?_ ?_
  · have q1 : 1 + k3 ≤ 100000000 := by omega
    have q2 : -100000000 ≤ 1 + k3 := by omega
    simp [e3, q1, q2]
    rw [show (1 + k3).toNat - 1 = k3.toNat by omega]
  · refine ⟨rd3, [(0, 0, 2 + k2)], none, rfl, rfl, by simp, by simp, fun i a ha => ?_⟩
    cases i with
    | zero =>
      simp at ha
      subst ha
      simp [isArb]
      omega
    | succ i => simp at ha
  · rintro i d r g hd ⟨rdA, w, x, rfl, hl, gw⟩
    obtain ⟨hi, rfl⟩ := rng_at hd
    obtain ⟨k4, g4, e4, a4, b4, rd4⟩ := next_ok rdA (many := 1 + (i : Nat)) (by omega) (by omega)
    obtain ⟨k5, g5, e5, a5, b5, rd5⟩ := next_ok rd4 (many := t - 3) (by omega) (by omega)
    obtain ⟨k6, g6, e6, a6, b6, rd6⟩ := next_ok rd5 (many := t - 3) (by omega) (by omega)
    refine ⟨[some (.tok 1), some (.dat (.int u)), some (.dat (.int t)), some (.own (w.map encA)), some (.dat (.int (1 + (i : Nat))))], by simp, ?_⟩
    have hw : w.length < 100000 := by omega
    simp [e4, e5, e6, hw, Out.after]
    refine ⟨rd6, w ++ [(k4, 4 + k5, 4 + k6)], by simp [encA], by simp [hl], gw.push (by omega) ?_⟩
    rw [hl]
    have hn : ¬ ((i + 1 : Nat) : Int) = 0 := by omega
    unfold isArb
    rw [if_neg hn]
    simp
    omega
  · rintro r g ⟨rdA, w, x, rfl, hl, gw⟩
    simp [nxThen, RPost, encW]
    rw [rng_len] at hl
    exact ⟨w, rfl, gw, by omega, rdA⟩

/-- worn teeth that can be: in turn, each of an arbor behind the first -/
def isTooth (w : List Arb) (p : Int × Int) : Prop := 1 ≤ p.1 ∧ p.1 < (w.length : Int) ∧ ∀ a, w[p.1.toNat]? = some a → 0 ≤ p.2 ∧ p.2 < a.2.1
def GoodN (w : List Arb) (n : List (Int × Int)) : Prop := (n.Pairwise fun a b => ltP a b = true) ∧ ∀ p ∈ n, isTooth w p
theorem pairsOf_enc (ps : List (Int × Int)) : pairsOf (ps.map encP) = some ps := by
  induction ps with
  | nil => rfl
  | cons p ps ih =>
    simp only [List.map_cons, encP, pairsOf]
    rw [ih]
    rfl
theorem len_insP (p : Int × Int) (l : List (Int × Int)) : (insP p l).length ≤ l.length + 1 := by
  induction l with
  | nil => simp [insP]
  | cons q l ih =>
    unfold insP
    split
    · simp
    · split
      · simp
      · simp
        omega
theorem len_srtP (l : List (Int × Int)) : (srtP l).length ≤ l.length := by
  unfold srtP
  induction l with
  | nil => simp
  | cons p l ih =>
    have := len_insP p (List.foldr insP [] l)
    simp only [List.foldr_cons, List.length_cons]
    omega
theorem worn_okU {g : DG} (rd : Ready g) {w : List Arb} (gw : GoodW w) {u : Int} (hu : 0 ≤ u) (hu8 : u ≤ 30) : ∃ v g', f__law_worn [encW w, .int u] g = .ok v g' ∧ ∃ n, v = .dat (.tuple (n.map encP)) ∧ GoodN w n ∧ (n.length : Int) ≤ u ∧ n.length ≤ 63 ∧ Ready g' := by
  have hl := gw.2.1
  have hl1 := gw.1
  unfold f__law_worn
  refine runT_post rfl ?_
  unfold b__law_worn
  obtain ⟨k1, g1, e1, a1, b1, rd1⟩ := next_ok rd (many := u + 1) (by omega) (by omega)
  refine seq_gen fun t0 ht0 => ?_
  simp [envOfT, nxThen]
  subst ht0
  refine seq_post ?_
  refine for_in (items := rngL 0 k1.toNat) (g1 := g1) (fun i r g => Ready g ∧ ∃ (ps : List (Int × Int)) (x y : Option Vl), r = [some (.tok 1), some (.dat (encW w)), some (.dat (.int u)), some (.own (ps.map encP)), x, y] ∧ ps.length ≤ i ∧ ∀ p ∈ ps, isTooth w p) ?_ ?_ ?_ ?_
  · have q1 : k1 ≤ 100000000 := by omega
    have q2 : -100000000 ≤ k1 := by omega
    simp [e1, q1, q2]
  · exact ⟨rd1, [], none, none, rfl, Nat.le_refl 0, fun p hp => absurd hp List.not_mem_nil⟩
  · rintro i d r g hd ⟨rdA, ps, x, y, rfl, hlp, hps⟩
    obtain ⟨hi, rfl⟩ := rng_at hd
    refine ⟨_, rfl, ?_⟩
    obtain ⟨k2, g2, e2, a2, b2, rd2⟩ := next_ok rdA (many := (w.length : Nat)) (by omega) (by omega)
    refine seq_gen fun t0 ht0 => ?_
    simp [encW, e2, nxThen]
    subst ht0
    by_cases h0 : 0 < k2
    · obtain ⟨a, ha⟩ : ∃ a, w[k2.toNat]? = some a := ⟨_, List.getElem?_eq_getElem (by omega)⟩
      obtain ⟨p1, p2, p3, p4, p5, p6⟩ := gw.arb ha (by omega)
      have at1 : atI (w.map encA) k2 = some (encA a) := encW_get a2 ha
      obtain ⟨k3, g3, e3, a3, b3, rd3⟩ := next_ok rd2 (many := a.2.1) (by omega) (by omega)
      have hpl : ps.length < 100000 := by omega
      simp [h0, at1]
      simp [encA, e3, hpl, Out.after]
      refine ⟨rd3, ps ++ [(k2, k3)], by simp [encW, encP], by simp; omega, fun x1 x2 hp => ?_⟩
      rcases List.mem_append.mp hp with hp | hp
      · exact hps _ hp
      · rw [List.mem_singleton.mp hp]
        refine ⟨by show 1 ≤ k2; omega, b2, fun b hb => ?_⟩
        rw [ha] at hb
        cases hb
        exact ⟨a3, b3⟩
    · simp [h0, Out.after]
      exact ⟨rd2, ps, by simp [encW], by omega, fun x1 x2 hp => hps _ hp⟩
  · rintro r g ⟨rdA, ps, x, y, rfl, hlp, hps⟩
    rw [rng_len] at hlp
    have q1 : ps.length < 64 := by omega
    have q2 : ∀ p ∈ ps, (0 ≤ p.1 ∧ p.1 < 1000000) ∧ 0 ≤ p.2 ∧ p.2 < 1000000 := fun p hp => by
      obtain ⟨h1, h2, h3⟩ := hps p hp
      obtain ⟨a, ha⟩ : ∃ a, w[p.1.toNat]? = some a := ⟨_, List.getElem?_eq_getElem (by omega)⟩
      obtain ⟨h4, h5⟩ := h3 a ha
      obtain ⟨p1, p2, p3, p4, p5, p6⟩ := gw.arb ha (by omega)
      omega
    have q3 : (ps.all fun p => decide (0 ≤ p.1) && decide (p.1 < 1000000) && (decide (0 ≤ p.2) && decide (p.2 < 1000000))) = true := by
      rw [List.all_eq_true]
      intro p hp
      have := q2 p hp
      simp
      omega
    have q4 : oSrtSet (.dat (.list (ps.map encP))) = some (.own ((srtP ps).map encP)) := by
      simp only [oSrtSet, Vl.lst?, pairsOf_enc]
      rw [if_pos ⟨q1, q3⟩]
    simp only [nxThen, sFrz, sRet, sB, sCons, sNil, sUn, sV, List.foldl_cons, List.foldl_nil, frzAt, List.getElem?_cons_succ, List.getElem?_cons_zero, List.set_cons_succ, List.set_cons_zero, R.bind_ok, q4, lift]
    simp [RPost]
    exact ⟨srtP ps, rfl, ⟨pw_srtP ps, fun p hp => hps p ((mem_srtP p ps).mp hp)⟩, by have := len_srtP ps; omega, Nat.le_trans (len_srtP ps) (by omega), rdA⟩
def miss (bs : List Int) (dr a b : Int) : Int := (bs.map fun t => (b + dr - 1 - t) / dr - (a + dr - 1 - t) / dr).sum
theorem intsOf_enc (l : List Int) : intsOf (l.map PyData.int) = some l := by
  induction l with
  | nil => rfl
  | cons x l ih => simp only [List.map_cons, intsOf]; rw [ih]; rfl
theorem missed_eq {bs : List Int} {dr a b : Int} (h0 : 0 < dr) (h1 : dr ≤ 99) (hl : bs.length ≤ 1000000) : f_missed [.list (bs.map PyData.int), .int dr, .int a, .int b] = .ok (.dat (.int (miss bs dr a b))) () := by
  have hb : dr < BIG := by rw [BIG_eq]; omega
  have hm : ∀ (r : CW.Env) (tg : MG) (tt : MT Unit) (e : ME Unit), (∀ t : Int, ∃ r1, tg (.dat (.int t)) r = some r1 ∧ tt r1 () = .ok true () ∧ e r1 () = .ok (.dat (.int ((b + dr - 1 - t) / dr - (a + dr - 1 - t) / dr))) ()) → lcGo r tg tt e (bs.map PyData.int) [] () = .ok ((bs.map fun t => (b + dr - 1 - t) / dr - (a + dr - 1 - t) / dr).map PyData.int) () := fun r tg tt e hh => by
    have := lc_map (fun d => match d with | .int t => .int ((b + dr - 1 - t) / dr - (a + dr - 1 - t) / dr) | d => d) (bs.map PyData.int) [] () (r := r) (tg := tg) (tt := tt) (e := e) fun d hd => by
      obtain ⟨t, _, rfl⟩ := List.mem_map.mp hd
      exact hh t
    rw [this]
    simp [Function.comp_def]
  unfold f_missed
  refine runD_is rfl (fun n e => nomatch e) ?_
  simp only [b_missed, sRet, sB, sCons, sNil, sLc, iSeq]
  simp [hl]
  rw [hm _ _ _ _ fun t => ⟨_, rfl, rfl, by simp [h0, hb]⟩]
  unfold miss
  generalize (bs.map fun t => (b + dr - 1 - t) / dr - (a + dr - 1 - t) / dr) = l2
  simp [intsOf_enc, RPost]
def pF (k : Int) : PyData → Bool
  | .tuple [.int a, _] => a == k
  | _ => false
def fF : PyData → PyData
  | .tuple [_, x] => x
  | d => d
def brok (n : List (Int × Int)) (k : Int) : List Int := (n.filter fun p => p.1 == k).map (·.2)
theorem brok_enc (n : List (Int × Int)) (k : Int) : ((n.map encP).filter (pF k)).map fF = (brok n k).map PyData.int := by
  unfold brok
  induction n with
  | nil => rfl
  | cons p n ih =>
    simp only [List.map_cons, List.filter_cons]
    have e : pF k (encP p) = (p.1 == k) := rfl
    rw [e]
    split
    · simp only [List.map_cons]
      rw [ih]
      rfl
    · exact ih
theorem cnt_step {t dr v : Int} (h0 : 0 ≤ t) (h1 : t < dr) : (v + 1 + dr - 1 - t) / dr = (v + dr - 1 - t) / dr + (if v % dr = t then 1 else 0) := by
  have hd : 0 < dr := by omega
  have e := Int.mul_ediv_add_emod v dr
  have r0 := Int.emod_nonneg v (show dr ≠ 0 by omega)
  have r1 := Int.emod_lt_of_pos v hd
  generalize v / dr = q at *
  generalize v % dr = r at *
  have a1 : v + 1 + dr - 1 - t = (r + dr - t) + dr * q := by omega
  have a2 : v + dr - 1 - t = (r + dr - 1 - t) + dr * q := by omega
  rw [a1, a2, Int.add_mul_ediv_left _ _ (by omega), Int.add_mul_ediv_left _ _ (by omega)]
  have small_ : ∀ x : Int, 0 ≤ x → x < dr → x / dr = 0 := fun x h h' => Int.ediv_eq_zero_of_lt h h'
  have one_ : ∀ x : Int, dr ≤ x → x < 2 * dr → x / dr = 1 := fun x h h' => by
    have e1 : x = (x - dr) + dr * 1 := by omega
    rw [e1, Int.add_mul_ediv_left _ _ (by omega), small_ _ (by omega) (by omega)]
    rfl
  by_cases c : r = t
  · rw [if_pos c, one_ _ (by omega) (by omega), small_ _ (by omega) (by omega)]
    omega
  · rw [if_neg c]
    by_cases c2 : r < t
    · rw [small_ _ (by omega) (by omega), small_ _ (by omega) (by omega)]
      omega
    · rw [one_ (r + dr - t) (by omega) (by omega), one_ (r + dr - 1 - t) (by omega) (by omega)]
      omega
theorem cnt_zero {t dr : Int} (h0 : 0 ≤ t) (h1 : t < dr) : (0 + dr - 1 - t) / dr = 0 := Int.ediv_eq_zero_of_lt (by omega) (by omega)
/-- the worn ones among the passes up to the v-th -/
def lostN (bs : List Int) (dr v : Int) : Int := (bs.map fun t => (v + dr - 1 - t) / dr).sum
theorem lostN_zero {bs : List Int} {dr : Int} (h : ∀ t ∈ bs, 0 ≤ t ∧ t < dr) : lostN bs dr 0 = 0 := by
  unfold lostN
  induction bs with
  | nil => rfl
  | cons t bs ih =>
    rw [List.map_cons, List.sum_cons, ih fun x hx => h x (List.mem_cons_of_mem _ hx)]
    obtain ⟨h0, h1⟩ := h t List.mem_cons_self
    have := cnt_zero h0 h1
    omega
theorem miss_eq (bs : List Int) (dr a b : Int) : miss bs dr a b = lostN bs dr b - lostN bs dr a := by
  unfold miss lostN
  induction bs with
  | nil => rfl
  | cons t bs ih =>
    simp only [List.map_cons, List.sum_cons]
    rw [ih]
    omega
theorem lostN_step {bs : List Int} {dr : Int} (h : ∀ t ∈ bs, 0 ≤ t ∧ t < dr) (nd : bs.Nodup) (v : Int) : lostN bs dr (v + 1) = lostN bs dr v + (if v % dr ∈ bs then 1 else 0) := by
  unfold lostN
  induction bs with
  | nil => simp
  | cons t bs ih =>
    rw [List.nodup_cons] at nd
    have ih := ih (fun x hx => h x (List.mem_cons_of_mem _ hx)) nd.2
    obtain ⟨h0, h1⟩ := h t List.mem_cons_self
    have e := cnt_step (v := v) h0 h1
    simp only [List.map_cons, List.sum_cons, List.mem_cons]
    rw [ih, e]
    by_cases c : v % dr = t
    · have c2 : v % dr ∉ bs := by rw [c]; exact nd.1
      have c3 : v % dr = t ∨ v % dr ∈ bs := .inl c
      rw [if_pos c, if_neg c2, if_pos c3]
      omega
    · by_cases c2 : v % dr ∈ bs
      · rw [if_neg c, if_pos c2, if_pos (Or.inr c2)]
        omega
      · have c3 : ¬ (v % dr = t ∨ v % dr ∈ bs) := fun z => z.elim c c2
        rw [if_neg c, if_neg c2, if_neg c3]
        omega
/-- between two counts no more are lost than pass -/
theorem lostN_mono {bs : List Int} {dr : Int} (h : ∀ t ∈ bs, 0 ≤ t ∧ t < dr) (nd : bs.Nodup) (a : Int) (k : Nat) : lostN bs dr a ≤ lostN bs dr (a + k) ∧ lostN bs dr (a + k) ≤ lostN bs dr a + k := by
  induction k with
  | zero => simp
  | succ k ih =>
    have e := lostN_step h nd (a + k)
    have e1 : a + ((k + 1 : Nat) : Int) = a + k + 1 := by omega
    rw [e1, e]
    split <;> omega
theorem lostN_bnd {bs : List Int} {dr v : Int} (h : ∀ t ∈ bs, 0 ≤ t ∧ t < dr) (nd : bs.Nodup) (h0 : 0 ≤ v) : 0 ≤ lostN bs dr v ∧ lostN bs dr v ≤ v := by
  have m := lostN_mono h nd 0 v.toNat
  rw [lostN_zero h] at m
  have e : (0 : Int) + (v.toNat : Nat) = v := by omega
  rw [e] at m
  omega
theorem GoodN.teeth {w : List Arb} {n : List (Int × Int)} (gn : GoodN w n) {k : Nat} {a : Arb} (ha : w[k]? = some a) : ∀ t ∈ brok n (k : Nat), 0 ≤ t ∧ t < a.2.1 := fun t ht => by
  obtain ⟨p, hp, rfl⟩ := List.mem_map.mp ht
  obtain ⟨hp1, hp2⟩ := List.mem_filter.mp hp
  obtain ⟨g1, g2, g3⟩ := gn.2 p hp1
  have hpk : p.1 = (k : Nat) := by simpa using hp2
  exact g3 a (by rw [hpk]; simpa using ha)
theorem GoodN.nd {w : List Arb} {n : List (Int × Int)} (gn : GoodN w n) (k : Int) : (brok n k).Nodup := by
  unfold brok
  rw [List.Nodup, List.pairwise_map]
  refine List.Pairwise.imp_of_mem ?_ (gn.1.filter _)
  intro p q hp hq hlt e
  have p2 : p.1 = k := by simpa using (List.mem_filter.mp hp).2
  have q2 : q.1 = k := by simpa using (List.mem_filter.mp hq).2
  rw [ltP_iff] at hlt
  omega
theorem brok_len (n : List (Int × Int)) (k : Int) : (brok n k).length ≤ n.length := by
  unfold brok
  rw [List.length_map]
  exact List.length_filter_le _ _
/-- one more arbor's steps -/
def nxt (w : List Arb) (n : List (Int × Int)) (f : List Int) (i : Nat) : Int :=
  pass w (w.getD i zA) (f.getD (w.getD i zA).1.toNat 0) - miss (brok n (i : Nat)) (w.getD i zA).2.1 0 (pass w (w.getD i zA) (f.getD (w.getD i zA).1.toNat 0))
def wsl (w : List Arb) (n : List (Int × Int)) (b : Int) : Nat → List Int
  | 0 => [b]
  | k + 1 => wsl w n b k ++ [nxt w n (wsl w n b k) (k + 1)]
/-- arbor i's steps -/
def wa (w : List Arb) (n : List (Int × Int)) (b : Int) (i : Nat) : Int := (wsl w n b i).getD i 0
def WS (w : List Arb) (n : List (Int × Int)) (b : Int) : List Int := (List.range w.length).map (wa w n b)
theorem wsl_len (w : List Arb) (n : List (Int × Int)) (b : Int) (k : Nat) : (wsl w n b k).length = k + 1 := by
  induction k with
  | zero => rfl
  | succ k ih => simp [wsl, ih]
theorem wsl_eq (w : List Arb) (n : List (Int × Int)) (b : Int) (k : Nat) : wsl w n b k = (List.range (k + 1)).map (wa w n b) := by
  induction k with
  | zero => rfl
  | succ k ih =>
    rw [List.range_succ, List.map_append, ← ih]
    show wsl w n b k ++ _ = _
    congr 1
    have h : (wsl w n b (k + 1)).getD (k + 1) 0 = nxt w n (wsl w n b k) (k + 1) := by
      show (wsl w n b k ++ [nxt w n (wsl w n b k) (k + 1)]).getD (k + 1) 0 = _
      rw [List.getD_eq_getElem?_getD, List.getElem?_append_right (by rw [wsl_len]; omega), wsl_len, Nat.sub_self]
      rfl
    simp only [List.map_cons, List.map_nil]
    rw [show wa w n b (k + 1) = _ from h]
theorem wsl_get {w : List Arb} {n : List (Int × Int)} {b : Int} {k i : Nat} (h : i ≤ k) : (wsl w n b k)[i]? = some (wa w n b i) := by
  rw [wsl_eq, List.getElem?_map, List.getElem?_range (by omega)]
  rfl
theorem wsl_WS {w : List Arb} (h : 1 ≤ w.length) (n : List (Int × Int)) (b : Int) : wsl w n b (w.length - 1) = WS w n b := by
  rw [wsl_eq, show w.length - 1 + 1 = w.length by omega]
  rfl
@[simp] theorem WS_len (w : List Arb) (n : List (Int × Int)) (b : Int) : (WS w n b).length = w.length := by simp [WS]
theorem wa_zero (w : List Arb) (n : List (Int × Int)) (b : Int) : wa w n b 0 = b := rfl
theorem wa_nxt (w : List Arb) (n : List (Int × Int)) (b : Int) (k : Nat) : wa w n b (k + 1) = nxt w n (wsl w n b k) (k + 1) := by
  show (wsl w n b k ++ [nxt w n (wsl w n b k) (k + 1)]).getD (k + 1) 0 = _
  rw [List.getD_eq_getElem?_getD, List.getElem?_append_right (by rw [wsl_len]; omega), wsl_len, Nat.sub_self]
  rfl
/-- what passes of the wheel that drives arbor i -/
def pvw (w : List Arb) (n : List (Int × Int)) (b : Int) (i : Nat) : Int := pass w (w.getD i zA) (wa w n b (w.getD i zA).1.toNat)
theorem getD_of {A : Type} {l : List A} {i : Nat} {a d : A} (h : l[i]? = some a) : l.getD i d = a := by rw [List.getD_eq_getElem?_getD, h]; rfl
theorem wa_step {w : List Arb} (gw : GoodW w) (n : List (Int × Int)) (b : Int) {i : Nat} {a : Arb} (ha : w[i]? = some a) (hi : 0 < i) : wa w n b i = pvw w n b i - miss (brok n (i : Nat)) a.2.1 0 (pvw w n b i) := by
  obtain ⟨k, rfl⟩ : ∃ k, i = k + 1 := ⟨i - 1, by omega⟩
  rw [wa_nxt]
  unfold nxt pvw
  rw [getD_of ha]
  obtain ⟨p1, p2, p3, p4, p5, p6⟩ := gw.arb ha hi
  rw [getD_of (wsl_get (w := w) (n := n) (b := b) (k := k) (i := a.1.toNat) (by omega))]
theorem pass_lim {w : List Arb} (g : GoodW w) {i : Nat} {a : Arb} (ha : w[i]? = some a) (hi : 0 < i) {m : Int} (h0 : 0 ≤ m) : 0 ≤ pass w a m ∧ pass w a m ≤ 99 * m := by
  obtain ⟨p1, p2, p3, p4, p5, p6⟩ := g.arb ha hi
  have hlt : a.1.toNat < w.length := by
    have := (List.getElem?_eq_some_iff.mp ha).1
    omega
  have hb : w[a.1.toNat]? = some w[a.1.toNat] := List.getElem?_eq_getElem hlt
  obtain ⟨q1, q2⟩ := g.turn hb
  have e : pass w a m = m * a.2.1 / (w[a.1.toNat]).2.2 := by
    unfold pass
    rw [getD_of hb]
  rw [e]
  have n0 : 0 ≤ m * a.2.1 := Int.mul_nonneg h0 (by omega)
  refine ⟨Int.ediv_nonneg n0 (by omega), ?_⟩
  have l1 : m * a.2.1 / (w[a.1.toNat]).2.2 ≤ m * a.2.1 := Int.ediv_le_self _ n0
  have l2 : m * a.2.1 ≤ m * 99 := Int.mul_le_mul_of_nonneg_left (by omega) h0
  omega
theorem wa_bnd {w : List Arb} (gw : GoodW w) {n : List (Int × Int)} (gn : GoodN w n) {b : Int} (h0 : 0 ≤ b) : ∀ (i : Nat), i < w.length → 0 ≤ wa w n b i ∧ wa w n b i ≤ b * 100 ^ i ∧ (0 < i → 0 ≤ pvw w n b i ∧ wa w n b i ≤ pvw w n b i ∧ pvw w n b i ≤ b * 100 ^ i) := by
  intro i
  induction i using Nat.strongRecOn with
  | ind i ih =>
    intro hi
    by_cases hz : i = 0
    · subst hz
      rw [wa_zero]
      exact ⟨h0, by simp, fun h => absurd h (by omega)⟩
    · obtain ⟨a, ha⟩ : ∃ a, w[i]? = some a := ⟨_, List.getElem?_eq_getElem hi⟩
      obtain ⟨p1, p2, p3, p4, p5, p6⟩ := gw.arb ha (by omega)
      obtain ⟨i1, i2, _⟩ := ih a.1.toNat (by omega) (by omega)
      obtain ⟨l1, l2⟩ := pass_lim gw ha (by omega) i1
      have e := wa_step gw n b ha (by omega)
      have ep : pvw w n b i = pass w a (wa w n b a.1.toNat) := by unfold pvw; rw [getD_of ha]
      have lb := lostN_bnd (v := pvw w n b i) (gn.teeth ha) (gn.nd _) (by rw [ep]; exact l1)
      rw [miss_eq, lostN_zero (gn.teeth ha)] at e
      have h3 : (100 : Int) ^ (a.1.toNat + 1) ≤ 100 ^ i := by
        have := Nat.pow_le_pow_right (show 0 < 100 by decide) (show a.1.toNat + 1 ≤ i by omega)
        exact_mod_cast this
      rw [Int.pow_succ] at h3
      have h4 : b * (100 ^ a.1.toNat * 100) ≤ b * 100 ^ i := Int.mul_le_mul_of_nonneg_left h3 h0
      rw [← Int.mul_assoc] at h4
      have hv : pvw w n b i ≤ b * 100 ^ i := by rw [ep]; omega
      exact ⟨by omega, by omega, fun _ => ⟨by omega, by omega, hv⟩⟩
theorem pow100_7 : ∀ i : Nat, i ≤ 7 → (100 : Int) ^ i ≤ 100000000000000 := fun i hi => by
  have h : (100 : Int) ^ i ≤ 100 ^ 7 := by
    have := Nat.pow_le_pow_right (show 0 < 100 by decide) hi
    exact_mod_cast this
  have e : (100 : Int) ^ 7 = 100000000000000 := by decide
  omega
theorem wa_big {w : List Arb} (gw : GoodW w) {n : List (Int × Int)} (gn : GoodN w n) {b : Int} (h0 : 0 ≤ b) (h1 : b ≤ 1000000) {i : Nat} (hi : i < w.length) : 0 ≤ wa w n b i ∧ wa w n b i ≤ 100000000000000000000 := by
  obtain ⟨p, q, _⟩ := wa_bnd gw gn h0 i hi
  have hl := gw.2.1
  have := pow100_7 i (by omega)
  have h2 : b * 100 ^ i ≤ b * 100000000000000 := Int.mul_le_mul_of_nonneg_left this h0
  omega
theorem passed_p {w : List Arb} (g : GoodW w) {i : Nat} {a : Arb} (ha : w[i]? = some a) (hi : 0 < i) {m : Int} (h0 : 0 ≤ m) (h1 : m ≤ 1000000000000000000000000000000) :
    f_passed [encW w, .int (i : Nat), .int m] = .ok (.dat (.int (pass w a m))) () := by
  obtain ⟨p1, p2, p3, p4, p5, p6⟩ := g.arb ha hi
  have hlt : a.1.toNat < w.length := by
    have := (List.getElem?_eq_some_iff.mp ha).1
    omega
  have hb : w[a.1.toNat]? = some w[a.1.toNat] := List.getElem?_eq_getElem hlt
  obtain ⟨q1, q2⟩ := g.turn hb
  have e1 : atI (w.map encA) ((i : Nat) : Int) = some (encA a) := encW_get (by omega) (by simpa using ha)
  have e2 : atI (w.map encA) a.1 = some (encA w[a.1.toNat]) := encW_get p1 hb
  have s1 : small m = true := small_of (by omega) (by omega)
  have s2 : small a.2.1 = true := small_of (by omega) (by omega)
  have s3 : (w[a.1.toNat]).2.2 < BIG := by rw [BIG_eq]; omega
  have s4 : 0 < (w[a.1.toNat]).2.2 := by omega
  have e3 : pass w a m = m * a.2.1 / (w[a.1.toNat]).2.2 := by
    unfold pass
    rw [getD_of hb]
  rw [e3]
  simp [f_passed, b_passed, encW, e1]
  simp [encA, e2, s1, s2, s3, s4]
theorem brok_lc {G : Type} {g : G} (n : List (Int × Int)) (k : Int) (r : CW.Env) (tg : MG) (tt : MT G) (e : ME G) (hh : ∀ p : Int × Int, ∃ r1, tg (.dat (encP p)) r = some r1 ∧ tt r1 g = .ok (p.1 == k) g ∧ e r1 g = .ok (.dat (.int p.2)) g) : lcGo r tg tt e (n.map encP) [] g = .ok ((brok n k).map PyData.int) g := by
  have := lc_filter (pF k) fF (n.map encP) [] g (r := r) (tg := tg) (tt := tt) (e := e) fun d hd => by
    obtain ⟨p, _, rfl⟩ := List.mem_map.mp hd
    obtain ⟨r1, z1, z2, z3⟩ := hh p
    exact ⟨r1, z1, z2, fun _ => z3⟩
  rw [this, brok_enc]
  simp
theorem worn_steps_of_eq {w : List Arb} (gw : GoodW w) {n : List (Int × Int)} (gn : GoodN w n) (hn : n.length ≤ 1000) {b : Int} (h0 : 0 ≤ b) (h1 : b ≤ 1000000) :
    f_worn_steps_of [encW w, .tuple (n.map encP), .int b] = .ok (.own (encI (WS w n b))) () := by
  unfold f_worn_steps_of
  refine runD_is rfl (fun n e => nomatch e) ?_
  unfold b_worn_steps_of
  have hl := gw.2.1
  have hl1 := gw.1
  refine seq_gen fun t0 ht0 => ?_
  simp [envOf, nxThen]
  subst ht0
  refine seq_post ?_
  refine for_in (items := rngL 1 (w.length - 1)) (g1 := ()) (fun i r _ => ∃ (x4 x5 x6 x7 x8 x9 x10 x11 : Option Vl), r = [some (.dat (encW w)), some (.dat (.tuple (n.map encP))), some (.dat (.int b)), some (.own (encI (wsl w n b i))), x4, x5, x6, x7, x8, x9, x10, x11]) ?_ ?_ ?_ ?_
  · have q1 : (w.length : Int) ≤ 100000000 := by omega
    have q2 : -100000000 ≤ (w.length : Int) := by omega
    simp [encW, q1, q2]
  · exact ⟨none, none, none, none, none, none, none, none, rfl⟩
  · rintro i d r g hd ⟨x4, x5, x6, x7, x8, x9, x10, x11, rfl⟩
    obtain ⟨hi, rfl⟩ := rng_at hd
    obtain ⟨k, hk⟩ : ∃ k : Nat, k = i + 1 := ⟨_, rfl⟩
    have hd2 : (1 : Int) + (i : Nat) = (k : Int) := by omega
    rw [hd2]
    have hnl : k < w.length := by omega
    obtain ⟨a, ha⟩ : ∃ a, w[k]? = some a := ⟨_, List.getElem?_eq_getElem hnl⟩
    obtain ⟨p1, p2, p3, p4, p5, p6⟩ := gw.arb ha (by omega)
    have hm : (wsl w n b i)[a.1.toNat]? = some (wa w n b a.1.toNat) := wsl_get (by omega)
    obtain ⟨m0, m1⟩ := wa_big gw gn h0 h1 (i := a.1.toNat) (by omega)
    have e1 : atI (w.map encA) ((k : Nat) : Int) = some (encA a) := encW_get (by omega) (by simpa using ha)
    have e2 : atI (encI (wsl w n b i)) a.1 = some (.int (wa w n b a.1.toNat)) := encI_get p1 hm
    have e3 := passed_p gw ha (by omega) m0 (by omega)
    have ep : pvw w n b k = pass w a (wa w n b a.1.toNat) := by unfold pvw; rw [getD_of ha]
    rw [← ep] at e3
    have hbl := brok_len n (k : Int)
    have e5 := missed_eq (bs := brok n (k : Int)) (dr := a.2.1) (a := 0) (b := pvw w n b k) (by omega) p4 (by omega)
    have ew := wa_step gw n b ha (by omega)
    have hmll : (wsl w n b i).length < 100000 := by rw [wsl_len]; omega
    have hnl6 : n.length ≤ 1000000 := by omega
    have es : wsl w n b (i + 1) = wsl w n b i ++ [wa w n b k] := by rw [hk, wa_nxt]; rfl
    refine ⟨_, rfl, ?_⟩
    unfold encW at e3
    refine seq_gen fun t0 ht0 => ?_
    simp [encW, e1, nxThen]
    simp [encA]
    subst ht0
    refine seq_gen fun t0 ht0 => ?_
    simp [e2, e3, nxThen]
    subst ht0
    refine seq_gen fun t0 ht0 => ?_
    simp only [sAsg, sLc, iSeq]
    simp [hnl6]
    rw [brok_lc n (k : Nat) _ _ _ _ fun p => ⟨_, rfl, by simp [encP], by simp [encP]⟩]
    simp [nxThen]
    subst ht0
    generalize brok n (k : Nat) = bl at *
    simp [e5, hmll, Out.after]
    rw [es, ew]
    simp [encW]
  · rintro r g ⟨x4, x5, x6, x7, x8, x9, x10, x11, rfl⟩
    rw [rng_len, wsl_WS hl1]
    simp [nxThen, RPost]
theorem needb {b m : Int} (h0 : 0 ≤ b) (h1 : b ≤ m) : f_need_beats [.int b, .int m] = .ok (.dat .none) () := by
  simp [f_need_beats, b_need_beats, h0, h1]
theorem deqs_ints (l m : List Int) : deqs (l.map PyData.int) (m.map PyData.int) = decide (l = m) := by
  induction l generalizing m with
  | nil => cases m <;> simp
  | cons x l ih => cases m with
    | nil => simp
    | cons y m =>
      simp only [List.map_cons, deqs_cc, deq_ii, ih]
      by_cases h : x = y <;> simp [h]
theorem shps_int (k : Nat) (l : List Int) : shps k (l.map PyData.int) = true := by
  induction l with
  | nil => rfl
  | cons x l ih => simp [ih]
theorem gn_nil (w : List Arb) : GoodN w [] := ⟨List.Pairwise.nil, fun p hp => absurd hp List.not_mem_nil⟩
@[simp] theorem atI_last (l : List PyData) (x : PyData) : atI (l ++ [x]) (-1) = some x := by
  unfold atI atN
  rw [if_neg (by decide), if_pos (by simp; omega)]
  simp
  rw [show (-1 + ((l.length : Int) + 1)).toNat = l.length by omega]
  simp
def DD (w : List Arb) : Nat → Nat
  | 0 => 1
  | n + 1 => DD w n * ((w.getD n zA).2.2.toNat)
theorem DD_dvd (w : List Arb) {i j : Nat} (h : i ≤ j) : DD w i ∣ DD w j := by
  induction j with
  | zero => rw [Nat.le_zero.mp h]; exact Nat.dvd_refl _
  | succ j ih =>
    by_cases e : i = j + 1
    · rw [e]; exact Nat.dvd_refl _
    · exact Nat.dvd_trans (ih (by omega)) (Nat.dvd_mul_right _ _)
theorem GoodW.teeth {w : List Arb} (g : GoodW w) (n : Nat) : 1 ≤ (w.getD n zA).2.2.toNat ∧ (w.getD n zA).2.2.toNat ≤ 100 := by
  rw [List.getD_eq_getElem?_getD]
  cases h : w[n]? with
  | none => decide
  | some a =>
    obtain ⟨q1, q2⟩ := g.turn h
    simp
    omega
structure GR (w : List Arb) (n : Nat) (us ds : List Nat) (N : Nat) : Prop where
  lu : us.length = n
  ld : ds.length = n
  zu : us[0]? = some 1
  zd : ∀ a, w[0]? = some a → ∃ d : Nat, ds[0]? = some d ∧ a.2.2 = (d : Int)
  step : ∀ (i : Nat) (a : Arb), 0 < i → i < n → w[i]? = some a → ∃ su sd u d g : Nat, us[a.1.toNat]? = some su ∧ ds[a.1.toNat]? = some sd ∧ us[i]? = some u ∧ ds[i]? = some d ∧ 0 < g ∧ (su : Int) * a.2.1 = g * u ∧ (sd : Int) * a.2.2 = g * d
  bu : ∀ (i u : Nat), us[i]? = some u → 1 ≤ u ∧ u ≤ 100 ^ i
  bd : ∀ (i d : Nat), ds[i]? = some d → 1 ≤ d ∧ d ∣ DD w (i + 1)
  dvd : ∀ (i d : Nat), ds[i]? = some d → d ∣ N
  least : ∀ M : Nat, (∀ (i d : Nat), ds[i]? = some d → d ∣ M) → N ∣ M
  pos : 1 ≤ N
  cop : ∀ (i u d : Nat), us[i]? = some u → ds[i]? = some d → Nat.gcd u d = 1
theorem GR.push {w : List Arb} {n : Nat} {us ds : List Nat} {N : Nat} (gw : GoodW w) (r : GR w n us ds N) (hn : 0 < n) {a : Arb} (ha : w[n]? = some a) {p q : Nat} (hp : a.2.1 = (p : Int)) (hq : a.2.2 = (q : Int)) {su sd : Nat} (hsu : us[a.1.toNat]? = some su) (hsd : ds[a.1.toNat]? = some sd) :
    GR w (n + 1) (us ++ [su * p / Nat.gcd (su * p) (sd * q)]) (ds ++ [sd * q / Nat.gcd (su * p) (sd * q)]) (Nat.lcm N (sd * q / Nat.gcd (su * p) (sd * q))) := by
  obtain ⟨p1, p2, p3, p4, p5, p6⟩ := gw.arb ha hn
  obtain ⟨b1, b2⟩ := r.bu _ _ hsu
  obtain ⟨c1, c2⟩ := r.bd _ _ hsd
  have hs : a.1.toNat < n := by omega
  have pu : 0 < su * p := Nat.mul_pos b1 (by omega)
  have pd : 0 < sd * q := Nat.mul_pos c1 (by omega)
  have pg : 0 < Nat.gcd (su * p) (sd * q) := Nat.gcd_pos_of_pos_left _ pu
  have e1 : Nat.gcd (su * p) (sd * q) * (su * p / Nat.gcd (su * p) (sd * q)) = su * p := Nat.mul_div_cancel' (Nat.gcd_dvd_left _ _)
  have e2 : Nat.gcd (su * p) (sd * q) * (sd * q / Nat.gcd (su * p) (sd * q)) = sd * q := Nat.mul_div_cancel' (Nat.gcd_dvd_right _ _)
  have u1 : 1 ≤ su * p / Nat.gcd (su * p) (sd * q) := Nat.div_pos (Nat.le_of_dvd pu (Nat.gcd_dvd_left _ _)) pg
  have d1 : 1 ≤ sd * q / Nat.gcd (su * p) (sd * q) := Nat.div_pos (Nat.le_of_dvd pd (Nat.gcd_dvd_right _ _)) pg
  have u2 : su * p / Nat.gcd (su * p) (sd * q) ≤ su * p := Nat.div_le_self _ _
  have d2 : sd * q / Nat.gcd (su * p) (sd * q) ∣ sd * q := ⟨Nat.gcd (su * p) (sd * q), e2.symm.trans (Nat.mul_comm _ _)⟩
  have newu : (us ++ [su * p / Nat.gcd (su * p) (sd * q)])[n]? = some (su * p / Nat.gcd (su * p) (sd * q)) := by
    rw [List.getElem?_append_right (by rw [r.lu]; omega), r.lu, Nat.sub_self]
    rfl
  have newd : (ds ++ [sd * q / Nat.gcd (su * p) (sd * q)])[n]? = some (sd * q / Nat.gcd (su * p) (sd * q)) := by
    rw [List.getElem?_append_right (by rw [r.ld]; omega), r.ld, Nat.sub_self]
    rfl
  have hD : DD w (n + 1) = DD w n * q := by
    show DD w n * (w.getD n zA).2.2.toNat = _
    rw [List.getD_eq_getElem?_getD, ha]
    simp [hq]
  refine ⟨by simp [r.lu], by simp [r.ld], snoc_old r.zu, fun b hb => ?_, fun i b hi hin hb => ?_, fun i u hu => ?_, fun i d hd => ?_, fun i d hd => ?_, fun M hM => ?_, ?_, fun i u d hu hd => ?_⟩
  · obtain ⟨d, h1, h2⟩ := r.zd b hb
    exact ⟨d, snoc_old h1, h2⟩
  · by_cases e : i = n
    · subst e
      rw [ha] at hb
      cases hb
      refine ⟨su, sd, _, _, Nat.gcd (su * p) (sd * q), snoc_old hsu, snoc_old hsd, newu, newd, pg, ?_, ?_⟩
      · rw [hp]; exact_mod_cast e1.symm
      · rw [hq]; exact_mod_cast e2.symm
    · obtain ⟨x1, x2, x3, x4, x5, y1, y2, y3, y4, y5⟩ := r.step i b hi (by omega) hb
      exact ⟨x1, x2, x3, x4, x5, snoc_old y1, snoc_old y2, snoc_old y3, snoc_old y4, y5⟩
  · rcases get_snoc hu with ⟨_, h⟩ | ⟨h, rfl⟩
    · exact r.bu i u h
    · refine ⟨u1, ?_⟩
      rw [h, r.lu]
      have : su * p ≤ 100 ^ a.1.toNat * 100 := Nat.mul_le_mul b2 (by omega)
      have h3 : 100 ^ (a.1.toNat + 1) ≤ 100 ^ n := Nat.pow_le_pow_right (by decide) (by omega)
      rw [Nat.pow_succ] at h3
      omega
  · rcases get_snoc hd with ⟨_, h⟩ | ⟨h, rfl⟩
    · exact r.bd i d h
    · refine ⟨d1, ?_⟩
      rw [h, r.ld, hD]
      refine Nat.dvd_trans d2 (Nat.mul_dvd_mul (Nat.dvd_trans c2 (DD_dvd w (by omega))) (Nat.dvd_refl q))
  · rcases get_snoc hd with ⟨_, h⟩ | ⟨h, rfl⟩
    · exact Nat.dvd_trans (r.dvd i d h) (Nat.dvd_lcm_left _ _)
    · exact Nat.dvd_lcm_right _ _
  · exact Nat.lcm_dvd (r.least M fun i d h => hM i d (snoc_old h)) (hM n _ newd)
  · exact Nat.lcm_pos r.pos d1
  · rcases get_snoc hu with ⟨hi, h⟩ | ⟨h, rfl⟩
    · rcases get_snoc hd with ⟨_, h'⟩ | ⟨h', rfl⟩
      · exact r.cop i u d h h'
      · rw [r.lu] at hi
        rw [r.ld] at h'
        omega
    · rcases get_snoc hd with ⟨hi, h'⟩ | ⟨h', rfl⟩
      · rw [r.ld] at hi
        rw [r.lu] at h
        omega
      · rw [Nat.gcd_div (Nat.gcd_dvd_left _ _) (Nat.gcd_dvd_right _ _)]
        exact Nat.div_self pg
abbrev Hnd := Str × Int × Int
def encH (h : Hnd) : PyData := .tuple [.str h.1, .int h.2.1, .int h.2.2]
def encHs (hs : List Hnd) : PyData := .tuple (hs.map encH)
def isNm (z : Str) : Prop := f_is_name [.str z] = .ok (.dat (.bool true)) () ∧ sok z = true
/-- hands that can be, of so many arbors -/
def GoodH (m : Nat) (hs : List Hnd) : Prop := hs.length ≤ 8 ∧ (hs.map (·.1)).Nodup ∧ ∀ h ∈ hs, isNm h.1 ∧ 0 ≤ h.2.1 ∧ h.2.1 < m ∧ 1 ≤ h.2.2 ∧ h.2.2 ≤ 60
theorem any_strs (l : List Str) (x : Str) : l.any ((fun e => deq e (PyData.str x)) ∘ PyData.str) = decide (x ∈ l) := by
  induction l with
  | nil => simp
  | cons y l ih =>
    simp only [List.any_cons, Function.comp_apply, deq_ss, ih]
    by_cases h : y = x
    · simp [h]
    · have h' : ¬ x = y := fun z => h z.symm
      simp [h, h']
theorem shps_strs (k : Nat) (l : List Str) (h : ∀ z ∈ l, sok z = true) : shps k (l.map PyData.str) = true := by
  induction l with
  | nil => rfl
  | cons x l ih =>
    have h1 := h x List.mem_cons_self
    have h2 := ih fun z hz => h z (List.mem_cons_of_mem _ hz)
    simp [h1, h2]
theorem cutL_to {A : Type} (l : List A) (i : Nat) (h : i ≤ l.length) : cutL l none (some (i : Int)) = l.take i := by
  have h2 : ¬ (i : Int) < 0 := by omega
  have h3 : min i l.length = i := by omega
  simp [cutL, cutAt, h2, h3]
theorem lc_names {G : Type} {g : G} (hs : List Hnd) (r : CW.Env) (tg : MG) (tt : MT G) (e : ME G) (hh : ∀ p : Hnd, ∃ r1, tg (.dat (encH p)) r = some r1 ∧ tt r1 g = .ok true g ∧ e r1 g = .ok (.dat (.str p.1)) g) : lcGo r tg tt e (hs.map encH) [] g = .ok ((hs.map (·.1)).map PyData.str) g := by
  have := lc_map (fun d => match d with | .tuple (.str a :: _) => .str a | d => d) (hs.map encH) [] g (r := r) (tg := tg) (tt := tt) (e := e) fun d hd => by
    obtain ⟨p, _, rfl⟩ := List.mem_map.mp hd
    exact hh p
  rw [this]
  simp [encH, Function.comp_def]
theorem need_hands_eq {w : List Arb} {hs : List Hnd} (gh : GoodH w.length hs) : f_need_hands [encW w, encHs hs] = .ok (.dat .none) () := by
  obtain ⟨hl, nd, hg⟩ := gh
  unfold f_need_hands
  refine runD_is rfl (fun n e => nomatch e) ?_
  unfold b_need_hands
  refine for_in (items := enumL 0 (hs.map encH)) (g1 := ()) (fun _ r _ => ∃ x2 x3 x4 x5 x6, r = [some (.dat (encW w)), some (.dat (encHs hs)), x2, x3, x4, x5, x6]) (by simp [envOf, encHs]) ⟨none, none, none, none, none, rfl⟩ ?_ ?_
  · rintro i d r g hd ⟨x2, x3, x4, x5, x6, rfl⟩
    obtain ⟨e, he, rfl⟩ := enum_at hd
    rw [List.getElem?_map] at he
    cases hp : hs[i]? with
    | none => rw [hp] at he; cases he
    | some h =>
      rw [hp] at he
      cases he
      obtain ⟨⟨n1, n2⟩, a0, a1, m0, m1⟩ := hg h (List.mem_of_getElem? hp)
      have hil := (List.getElem?_eq_some_iff.mp hp).1
      have hi8 : ¬ (i : Int) = 8 := by omega
      have ct := cutL_to (hs.map encH) i (by simp; omega)
      rw [← List.map_take] at ct
      have tl : (hs.take i).length ≤ 1000000 := by rw [List.length_take]; omega
      have tl2 : i ≤ 1000000 ∨ hs.length ≤ 1000000 := by omega
      have so := shps_strs 11 ((hs.take i).map (·.1)) fun z hz => by
        obtain ⟨q, hq, rfl⟩ := List.mem_map.mp hz
        exact (hg q (List.mem_of_mem_take hq)).1.2
      have an := any_strs ((hs.take i).map (·.1)) h.1
      have nin : h.1 ∉ (hs.take i).map (·.1) := fun hin => by
        obtain ⟨q, hq, hqe⟩ := List.mem_map.mp hin
        obtain ⟨j, hj⟩ := List.mem_iff_getElem?.mp hq
        rw [List.getElem?_take] at hj
        split at hj
        · rename_i hji
          have e1 : (hs.map (·.1))[j]? = some h.1 := by rw [List.getElem?_map, hj]; simp [hqe]
          have e2 : (hs.map (·.1))[i]? = some h.1 := by rw [List.getElem?_map, hp]; rfl
          obtain ⟨z1, z2⟩ := List.getElem?_eq_some_iff.mp e1
          obtain ⟨z3, z4⟩ := List.getElem?_eq_some_iff.mp e2
          exact List.pairwise_iff_getElem.mp nd j i z1 z3 hji (z2.trans z4.symm)
        · cases hj
      refine ⟨[some (.dat (encW w)), some (.dat (encHs hs)), some (.dat (.int (i : Nat))), some (.dat (.str h.1)), some (.dat (.int h.2.1)), some (.dat (.int h.2.2)), x6], by simp [encH], ?_⟩
      generalize hs.take i = tk at ct tl so an nin
      generalize hnm : tk.map (·.1) = nm at so an nin
      have lcn : ∀ (r : CW.Env) (tg : MG) (tt : MT Unit) (e : ME Unit), (∀ p : Hnd, ∃ r1, tg (.dat (encH p)) r = some r1 ∧ tt r1 () = .ok true () ∧ e r1 () = .ok (.dat (.str p.1)) ()) → lcGo r tg tt e (tk.map encH) [] () = .ok (nm.map PyData.str) () := fun r tg tt e hh => by
        rw [← hnm]
        exact lc_names tk r tg tt e hh
      refine seq_gen fun t1 ht1 => ?_
      simp only [sIfS, sOr, sNot, sTst, sOp, sLc, iSeq, sSl, sPart, sNoPart]
      simp [hi8, n1, encHs, ct, tl]
      rw [lcn _ _ _ _ fun p => ⟨_, rfl, rfl, by simp [encH]⟩]
      simp [so, an, nin, n2, nxThen]
      subst ht1
      simp [encW, a0, a1, m0, m1, Out.after]
  · rintro r g ⟨x2, x3, x4, x5, x6, rfl⟩
    simp [RPost]
/-- what a hand shows -/
def mk (w : List Arb) (ms : List Int) (h : Hnd) : Int := ms.getD h.2.1.toNat 0 * h.2.2 / (w.getD h.2.1.toNat zA).2.2 % h.2.2
theorem mark_eq {w : List Arb} (gw : GoodW w) {h : Hnd} {made : Int} {a : Arb} (k0 : 0 ≤ h.2.1) (ha : w[h.2.1.toNat]? = some a) (m1 : 1 ≤ h.2.2) (m2 : h.2.2 ≤ 60) (l0 : 0 ≤ made) (l1 : made ≤ 1000000000000000000000000000000) :
    f_mark_of [encW w, encH h, .int made] = .ok (.dat (.int (made * h.2.2 / a.2.2 % h.2.2))) () := by
  obtain ⟨q1, q2⟩ := gw.turn ha
  have e1 : atI (w.map encA) h.2.1 = some (encA a) := encW_get k0 ha
  have q3 : a.2.2 < BIG := by rw [BIG_eq]; omega
  have q4 : 0 < a.2.2 := by omega
  have q5 : 0 < h.2.2 := by omega
  have s1 : small made = true := small_of (by omega) (by omega)
  have s2 : small h.2.2 = true := small_of (by omega) (by omega)
  simp [f_mark_of, b_mark_of, encW, encH, e1]
  simp [encA, q3, q4, q5, s1, s2]
theorem marks_eq {w : List Arb} (gw : GoodW w) {hs : List Hnd} (gh : GoodH w.length hs) {ms : List Int} (hl : ms.length = w.length) (hb : ∀ m ∈ ms, 0 ≤ m ∧ m ≤ 1000000000000000000000000000000) :
    f_marks_of [encW w, encHs hs, .list (encI ms)] = .ok (.own (encI (hs.map (mk w ms)))) () := by
  obtain ⟨h8, nd, hg⟩ := gh
  have h6 : hs.length ≤ 1000000 := by omega
  unfold f_marks_of
  refine runD_is rfl (fun n e => nomatch e) ?_
  simp only [b_marks_of, sRet, sLc, iSeq]
  simp [encHs, h6]
  rw [lc_mapE encH (fun h => .int (mk w ms h)) hs _ _ _ _ fun h hh => ?_]
  · simp [Function.comp_def, RPost]
  · obtain ⟨_, a0, a1, m0, m1⟩ := hg h hh
    obtain ⟨a, ha⟩ : ∃ a, w[h.2.1.toNat]? = some a := ⟨_, List.getElem?_eq_getElem (by omega)⟩
    obtain ⟨m, hm⟩ : ∃ m, ms[h.2.1.toNat]? = some m := ⟨_, List.getElem?_eq_getElem (by omega)⟩
    obtain ⟨b0, b1⟩ := hb m (List.mem_of_getElem? hm)
    have e1 := mark_eq gw a0 ha m0 m1 b0 b1
    have e2 : atI (encI ms) h.2.1 = some (.int m) := encI_get a0 hm
    refine ⟨_, rfl, rfl, .dat (.int (m * h.2.2 / a.2.2 % h.2.2)), ?_, ?_⟩
    · unfold encW encH at e1
      simp [encW, encH, e2, e1]
    · simp only [mk, Vl.frz]
      rw [getD_of hm, getD_of ha]
theorem WS_big {w : List Arb} (gw : GoodW w) {n : List (Int × Int)} (gn : GoodN w n) {b : Int} (h0 : 0 ≤ b) (h1 : b ≤ 1000000) : ∀ m ∈ WS w n b, 0 ≤ m ∧ m ≤ 1000000000000000000000000000000 := fun m hm => by
  obtain ⟨i, hi, rfl⟩ := List.mem_map.mp hm
  have := wa_big gw gn h0 h1 (List.mem_range.mp hi)
  omega

/-- whether a hand is wrong behind so many beats -/
def bad (w : List Arb) (h : Hnd) (turn : Int) (b : Nat) : Prop := mk w (WS w [] (b : Int)) h ≠ (b : Int) * h.2.2 / turn % h.2.2
abbrev Pt := Int × Int
structure GoodL (w : List Arb) (ps : List Pt) (ls : List Int) : Prop where
  gw : GoodW w
  pl : ps.length = w.length
  pb : ∀ p ∈ ps, 0 ≤ p.1 ∧ p.1 ≤ 999 ∧ 0 ≤ p.2 ∧ p.2 ≤ 999
  ll : ls.length + 1 = w.length
  lb : ∀ l ∈ ls, 1 ≤ l ∧ l ≤ 9
def rowM (a : Int) : PyData := .tuple [.str "mesh", .int a]
@[simp] theorem atI_3 (x y z t : PyData) (l : List PyData) : atI (x :: y :: z :: t :: l) 3 = some t := by
  refine atI_nat' (by omega) ?_
  rfl
inductive PR where
  | same (a b : Int) | whl (p q : Int × Int)
def encPR : PR → PyData
  | .same a b => .tuple [.str "same", .int a, .int b]
  | .whl p q => .tuple [.str "wheels", encP p, encP q]
def encS (x : (Int × Int) × Int) : PyData := .tuple [.str "shaft", encP x.1, .int x.2]
/-- a row of what clashes -/
inductive IsRow : PyData → Prop
  | m (a : Int) : IsRow (rowM a)
  | p (x : PR) : IsRow (encPR x)
  | s (x : (Int × Int) × Int) : IsRow (encS x)
theorem IsRow.deq {d : PyData} (h : IsRow d) : deq d d = true := by
  cases h with
  | m a => simp [rowM]
  | p x => cases x <;> simp [encPR, encP]
  | s x => simp [encS, encP]
theorem GoodL.push {w : List Arb} {ps : List Pt} {ls : List Int} (g : GoodL w ps ls) {a : Arb} {q : Pt} {l : Int} (hn : w.length ≤ 7) (ha : isArb (w.length : Nat) a = true) (hq : 0 ≤ q.1 ∧ q.1 ≤ 999 ∧ 0 ≤ q.2 ∧ q.2 ≤ 999) (hl : 1 ≤ l ∧ l ≤ 9) : GoodL (w ++ [a]) (ps ++ [q]) (ls ++ [l]) := by
  have h1 := g.pl
  have h2 := g.ll
  refine ⟨g.gw.push (by omega) ha, by simp [h1], fun p hp => ?_, by simp; omega, fun x hx => ?_⟩
  · rcases List.mem_append.mp hp with h | h
    · exact g.pb p h
    · rw [List.mem_singleton.mp h]; exact hq
  · rcases List.mem_append.mp hx with h | h
    · exact g.lb x h
    · rw [List.mem_singleton.mp h]; exact hl
noncomputable def likeB (f : List PyData → R Vl Unit) : MS Unit := (sSeq (sIfS (sOr (sTst (sUn (oIsi 0) (sV 1))) (sTst (sUn (oIsi 1) (sV 1)))) (sSeq (sIfS (sTst (sOp oNe (sUn (oIsi 0) (sV 0)) (sUn (oIsi 0) (sV 1)))) (sRet (sC (.bool false))) sNext)
    (sSeq (sIfS (sOr (sTst (sOp oNe (sUn (oIsi 1) (sV 0)) (sUn (oIsi 1) (sV 1)))) (sTst (sOp oNe (sB bLen (sCons (sV 0) sNil)) (sB bLen (sCons (sV 1) sNil))))) (sRet (sC (.bool false))) sNext)
    (sRet (sOp oEq (sLc (iRng1 (sB bLen (sCons (sV 1) sNil))) (gN 2) (sNot (sTst (sCallP f (sCons (sOp oIx (sV 0) (sV 2)) (sCons (sOp oIx (sV 1) (sV 2)) sNil))))) (sV 2) [2]) (sLst sNil))))) sNext)
    (sSeq (sIfS (sTst (sOp oNe (sUn (oIsi 2) (sV 0)) (sUn (oIsi 2) (sV 1)))) (sRet (sC (.bool false))) sNext)
    (sSeq (sIfS (sOr (sTst (sOp oNe (sUn (oIsi 3) (sV 0)) (sUn (oIsi 3) (sV 1)))) (sTst (sOp oNe (sUn (oIsi 4) (sV 0)) (sUn (oIsi 4) (sV 1))))) (sRet (sC (.bool false))) sNext)
    (sRet (sOp oEq (sV 0) (sV 1))))))
theorem lc_rngF {G : Type} {g : G} (n : Nat) (r : CW.Env) (tg : MG) (tt : MT G) (e : ME G) (h : ∀ k, k < n → ∃ r1, tg (.dat (.int (0 + (k : Nat)))) r = some r1 ∧ tt r1 g = .ok false g) : lcGo r tg tt e (rngL 0 n) [] g = .ok [] g := by
  have := lc_filterE (g := g) (fun k : Nat => PyData.int (0 + (k : Nat))) (fun _ => false) (fun k : Nat => PyData.int (0 + (k : Nat))) (List.range n) [] r tg tt e fun k hk => by
    obtain ⟨r1, h1, h2⟩ := h k (List.mem_range.mp hk)
    exact ⟨r1, h1, h2, fun z => by cases z⟩
  rw [show (List.range n).filter (fun _ => false) = [] from List.filter_eq_nil_iff.mpr (by simp)] at this
  simpa [rngL] using this
theorem likeB_seq (f : List PyData → R Vl Unit) (l : List PyData) (hl : l.length ≤ 100000) (h : ∀ x ∈ l, f [x, x] = .ok (.dat (.bool true)) ()) : runD 2 3 (likeB f) [.list l, .list l] = .ok (.dat (.bool true)) () ∧ runD 2 3 (likeB f) [.tuple l, .tuple l] = .ok (.dat (.bool true)) () := by
  have l2 : (l.length : Int) ≤ 100000000 := by omega
  have l3 : l.length ≤ 1000000 := by omega
  have ix : ∀ k, k < l.length → ∃ x ∈ l, atI l (0 + (k : Nat)) = some x := fun k hk => ⟨l[k], List.getElem_mem hk, atI_nat' (by omega) (by rw [show (0 + ((k : Nat) : Int)).toNat = k by omega]; exact List.getElem?_eq_getElem hk)⟩
  constructor
  · refine runD_is rfl (fun n e => nomatch e) ?_
    unfold likeB
    refine seq_gen fun t0 ht0 => ?_
    refine ifS_gen fun ta tb hta htb => ?_
    simp [envOf]
    subst hta htb
    simp only [sSeq, sIfS, sOr, sTst, sOp, sUn, sV, sRet, sLc]
    simp
    simp only [l2, if_true, R.bind_ok, rng_len, l3]
    rw [lc_rngF l.length _ _ _ _ fun k hk => ?_]
    · simp [nxThen, RPost]
    · obtain ⟨x, hx, hi⟩ := ix k hk
      rw [Int.zero_add] at hi
      exact ⟨_, rfl, by simp [hi, h x hx]⟩
  · refine runD_is rfl (fun n e => nomatch e) ?_
    unfold likeB
    refine seq_gen fun t0 ht0 => ?_
    refine ifS_gen fun ta tb hta htb => ?_
    simp [envOf]
    subst hta htb
    simp only [sSeq, sIfS, sOr, sTst, sOp, sUn, sV, sRet, sLc]
    simp
    simp only [l2, if_true, R.bind_ok, rng_len, l3]
    rw [lc_rngF l.length _ _ _ _ fun k hk => ?_]
    · simp [nxThen, RPost]
    · obtain ⟨x, hx, hi⟩ := ix k hk
      rw [Int.zero_add] at hi
      exact ⟨_, rfl, by simp [hi, h x hx]⟩
theorem likeB_int (f : List PyData → R Vl Unit) (i : Int) : runD 2 3 (likeB f) [.int i, .int i] = .ok (.dat (.bool true)) () := by
  simp [likeB, deq]
theorem likeB_str (f : List PyData → R Vl Unit) (z : Str) (hz : sok z = true) : runD 2 3 (likeB f) [.str z, .str z] = .ok (.dat (.bool true)) () := by
  simp [likeB, deq, hz]

def clv (w : List Arb) (A : Nat) (L b : Int) : Nat → List Int
  | 0 => [b]
  | k + 1 => clv w A L b k ++ [pass w (w.getD (k + 1) zA) ((clv w A L b k).getD (w.getD (k + 1) zA).1.toNat 0) - (if k + 1 = A then L else 0)]
/-- arbor i's steps, L of them lost at A -/
def cv (w : List Arb) (A : Nat) (L b : Int) (i : Nat) : Int := (clv w A L b i).getD i 0
/-- the teeth that passed -/
def ct (w : List Arb) (A : Nat) (L b : Int) (i : Nat) : Int := if i = 0 then 0 else pass w (w.getD i zA) (cv w A L b (w.getD i zA).1.toNat)
theorem runD_er {n : Str} {k m : Nat} {b : MS Unit} {ds : List PyData} (hk : ds.length = k) (h : ∃ r, b (envOf m ds) () = .er ⟨n, none⟩ r ()) : runD k m b ds = .er ⟨n, none⟩ () := by
  obtain ⟨r, h⟩ := h
  unfold runD
  rw [if_pos hk, h]
theorem need_hand_bad {hs : List Hnd} {k : Int} (h : ¬ (0 ≤ k ∧ k < hs.length)) : f_need_hand [encHs hs, .int k] = .er ⟨"NoHand", none⟩ () := by
  unfold f_need_hand
  refine runD_er rfl ?_
  by_cases h0 : 0 ≤ k
  · have h1 : ¬ k < (hs.length : Int) := fun z => h ⟨h0, z⟩
    simp [b_need_hand, envOf, encHs, h0, h1]
  · simp [b_need_hand, envOf, encHs, h0]
theorem need_beats_bad {b m : Int} (h : ¬ (0 ≤ b ∧ b ≤ m)) : f_need_beats [.int b, .int m] = .er ⟨"BadBeats", none⟩ () := by
  unfold f_need_beats
  refine runD_er rfl ?_
  by_cases h0 : 0 ≤ b
  · have h1 : ¬ b ≤ m := fun z => h ⟨h0, z⟩
    simp [b_need_beats, envOf, h0, h1]
  · simp [b_need_beats, envOf, h0]
/-- a comprehension that throws the dice, its items by their places -/
theorem lc_diceI {A : Type} (enc : A → PyData) (P : Nat → A → Prop) {r : CW.Env} {tg : MG} {tt : MT DG} {e : ME DG} : ∀ (items acc : List PyData) (j : Nat) (g : DG), Ready g →
    (∀ i d, items[i]? = some d → ∀ g, Ready g → ∃ r1 g' a v, tg (.dat d) r = some r1 ∧ tt r1 g = .ok true g ∧ e r1 g = .ok v g' ∧ v.frz = some (enc a) ∧ P (j + i) a ∧ Ready g') →
    ∃ (ys : List A) (g' : DG), lcGo r tg tt e items acc g = .ok (acc ++ ys.map enc) g' ∧ ys.length = items.length ∧ (∀ i y, ys[i]? = some y → P (j + i) y) ∧ Ready g'
  | [], acc, j, g, rd, _ => ⟨[], g, by simp [lcGo], rfl, fun i y hy => by simp at hy, rd⟩
  | x :: xs, acc, j, g, rd, h => by
    obtain ⟨r1, g1, a, v, h1, h2, h3, h4, h5, h6⟩ := h 0 x rfl g rd
    obtain ⟨ys, g', i1, i2, i3, i4⟩ := lc_diceI enc P xs (acc ++ [enc a]) (j + 1) g1 h6 fun i d hd => by
      have := h (i + 1) d (by simpa using hd)
      rw [show j + (i + 1) = j + 1 + i by omega] at this
      exact this
    refine ⟨a :: ys, g', ?_, by simp [i2], fun i y hy => ?_, i4⟩
    · unfold lcGo
      rw [h1]
      simp only [h2, h3, h4]
      rw [i1]
      simp
    · cases i with
      | zero => simp at hy; subst hy; exact h5
      | succ i =>
        have := i3 i y (by simpa using hy)
        rw [show j + 1 + i = j + (i + 1) by omega] at this
        exact this
theorem cnt_div {t dr v : Int} (h0 : 0 ≤ t) (h1 : t < dr) : (v + dr - 1 - t) / dr = v / dr + (if t < v % dr then 1 else 0) := by
  have e := Int.mul_ediv_add_emod v dr
  have r0 := Int.emod_nonneg v (show dr ≠ 0 by omega)
  have r1 := Int.emod_lt_of_pos v (show 0 < dr by omega)
  generalize v / dr = q at *
  generalize v % dr = r at *
  have a2 : v + dr - 1 - t = (r + dr - 1 - t) + dr * q := by omega
  rw [a2, Int.add_mul_ediv_left _ _ (by omega)]
  by_cases c : t < r
  · rw [if_pos c]
    have e1 : r + dr - 1 - t = (r - 1 - t) + dr * 1 := by omega
    rw [e1, Int.add_mul_ediv_left _ _ (by omega), Int.ediv_eq_zero_of_lt (by omega) (by omega)]
    omega
  · rw [if_neg c, Int.ediv_eq_zero_of_lt (by omega) (by omega)]
    omega
theorem lostN_div {bs : List Int} {dr v : Int} (h : ∀ t ∈ bs, 0 ≤ t ∧ t < dr) : lostN bs dr v = v / dr * bs.length + ((bs.filter fun t => decide (t < v % dr)).length : Nat) := by
  unfold lostN
  induction bs with
  | nil => simp
  | cons t bs ih =>
    obtain ⟨h0, h1⟩ := h t List.mem_cons_self
    rw [List.map_cons, List.sum_cons, ih fun x hx => h x (List.mem_cons_of_mem _ hx), cnt_div h0 h1]
    have e : v / dr * ((t :: bs).length : Nat) = v / dr * (bs.length : Nat) + v / dr := by
      rw [List.length_cons, show ((bs.length + 1 : Nat) : Int) = (bs.length : Int) + 1 by omega, Int.mul_add, Int.mul_one]
    rw [e]
    generalize v / dr * (bs.length : Nat) = z
    by_cases c : t < v % dr
    · simp [c, List.filter_cons]
      omega
    · simp [c, List.filter_cons]
      omega
theorem lc_lt {G : Type} {g : G} (l : List Int) (k : Int) (r : CW.Env) (tg : MG) (tt : MT G) (e : ME G) (hh : ∀ t ∈ l, ∃ r1, tg (.dat (.int t)) r = some r1 ∧ tt r1 g = .ok (decide (t < k)) g ∧ e r1 g = .ok (.dat (.int t)) g) :
    lcGo r tg tt e (l.map PyData.int) [] g = .ok ((l.filter fun t => decide (t < k)).map PyData.int) g := by
  have := lc_filterE (g := g) PyData.int (fun t => decide (t < k)) PyData.int l [] r tg tt e fun t ht => by
    obtain ⟨r1, h1, h2, h3⟩ := hh t ht
    exact ⟨r1, h1, h2, fun _ => ⟨_, h3, rfl⟩⟩
  simpa using this
theorem law_steps_eq {w : List Arb} (gw : GoodW w) {n : List (Int × Int)} (gn : GoodN w n) (hn : n.length ≤ 1000) {b : Int} (h0 : 0 ≤ b) (h1 : b ≤ 1000000) :
    f__law_steps [encW w, .tuple (n.map encP), .int b] = .ok (.own (encI (WS w n b))) () := by
  unfold f__law_steps
  refine runD_is rfl (fun n e => nomatch e) ?_
  unfold b__law_steps
  have hl := gw.2.1
  have hl1 := gw.1
  refine seq_gen fun t0 ht0 => ?_
  simp [envOf, nxThen]
  subst ht0
  refine seq_post ?_
  refine for_in (items := rngL 1 (w.length - 1)) (g1 := ()) (fun i r _ => ∃ (x4 x5 x6 x7 x8 x9 x10 x11 x12 : Option Vl), r = [some (.dat (encW w)), some (.dat (.tuple (n.map encP))), some (.dat (.int b)), some (.own (encI (wsl w n b i))), x4, x5, x6, x7, x8, x9, x10, x11, x12]) ?_ ?_ ?_ ?_
  · have q1 : (w.length : Int) ≤ 100000000 := by omega
    have q2 : -100000000 ≤ (w.length : Int) := by omega
    simp [encW, q1, q2]
  · exact ⟨none, none, none, none, none, none, none, none, none, rfl⟩
  · rintro i d r g hd ⟨x4, x5, x6, x7, x8, x9, x10, x11, x12, rfl⟩
    obtain ⟨hi, rfl⟩ := rng_at hd
    obtain ⟨k, hk⟩ : ∃ k : Nat, k = i + 1 := ⟨_, rfl⟩
    have hd2 : (1 : Int) + (i : Nat) = (k : Int) := by omega
    rw [hd2]
    have hnl : k < w.length := by omega
    obtain ⟨a, ha⟩ : ∃ a, w[k]? = some a := ⟨_, List.getElem?_eq_getElem hnl⟩
    obtain ⟨p1, p2, p3, p4, p5, p6⟩ := gw.arb ha (by omega)
    have hm : (wsl w n b i)[a.1.toNat]? = some (wa w n b a.1.toNat) := wsl_get (by omega)
    obtain ⟨m0, m1⟩ := wa_big gw gn h0 h1 (i := a.1.toNat) (by omega)
    obtain ⟨sa, hsa⟩ : ∃ sa, w[a.1.toNat]? = some sa := ⟨_, List.getElem?_eq_getElem (by omega)⟩
    obtain ⟨st1, st2⟩ := gw.turn hsa
    have e1 : atI (w.map encA) ((k : Nat) : Int) = some (encA a) := encW_get (by omega) (by simpa using ha)
    have es1 : atI (w.map encA) a.1 = some (encA sa) := encW_get p1 hsa
    have e2 : atI (encI (wsl w n b i)) a.1 = some (.int (wa w n b a.1.toNat)) := encI_get p1 hm
    have ep : pvw w n b k = wa w n b a.1.toNat * a.2.1 / sa.2.2 := by unfold pvw pass; rw [getD_of ha, getD_of hsa]
    have hbl := brok_len n (k : Int)
    have teeth := gn.teeth ha
    have ew := wa_step gw n b ha (by omega)
    rw [miss_eq, lostN_zero teeth, lostN_div teeth] at ew
    have hmll : (wsl w n b i).length < 100000 := by rw [wsl_len]; omega
    have hnl6 : n.length ≤ 1000000 := by omega
    have es : wsl w n b (i + 1) = wsl w n b i ++ [wa w n b k] := by rw [hk, wa_nxt]; rfl
    have wb := wa_bnd gw gn h0 k hnl
    have pv0 := (wb.2.2 (by omega)).1
    have s1 : small (wa w n b a.1.toNat) = true := small_of (by omega) (by omega)
    have s2 : small a.2.1 = true := small_of (by omega) (by omega)
    have s3 : sa.2.2 < BIG := by rw [BIG_eq]; omega
    have s4 : 0 < sa.2.2 := by omega
    have s5 : a.2.1 < BIG := by rw [BIG_eq]; omega
    have s6 : 0 < a.2.1 := by omega
    have pvl : pvw w n b k ≤ 10000000000000000000000 := by
      obtain ⟨_, z2⟩ := pass_lim gw ha (by omega) m0
      have : pvw w n b k = pass w a (wa w n b a.1.toNat) := by unfold pvw; rw [getD_of ha]
      omega
    have dv0 : 0 ≤ pvw w n b k / a.2.1 := Int.ediv_nonneg pv0 (by omega)
    have dv1 : pvw w n b k / a.2.1 ≤ 10000000000000000000000 := Int.le_trans (Int.ediv_le_self _ pv0) pvl
    have s7 : small (pvw w n b k / a.2.1) = true := small_of (by omega) (by omega)
    refine ⟨_, rfl, ?_⟩
    refine seq_gen fun t0 ht0 => ?_
    simp [encW, e1, nxThen]
    simp [encA]
    subst ht0
    refine seq_gen fun t0 ht0 => ?_
    simp [e2, es1, encA, s1, s2, s3, s4, nxThen]
    rw [← ep]
    subst ht0
    refine seq_gen fun t0 ht0 => ?_
    simp only [sAsg, sLc, iSeq]
    simp [hnl6]
    rw [brok_lc n (k : Nat) _ _ _ _ fun p => ⟨_, rfl, by simp [encP], by simp [encP]⟩]
    simp [nxThen]
    subst ht0
    generalize brok n (k : Nat) = bl at *
    have bl6 : bl.length ≤ 1000000 := by omega
    have s8 : small (bl.length : Int) = true := small_of (by omega) (by omega)
    refine seq_gen fun t0 ht0 => ?_
    simp only [sFrz, sAsg, sLc, iSeq]
    simp [bl6]
    rw [lc_lt bl (pvw w n b k % a.2.1) _ _ _ _ fun t ht => ⟨_, rfl, by simp [s5, s6], by simp⟩]
    simp [nxThen]
    subst ht0
    simp [s5, s6, s7, s8, hmll, Out.after]
    rw [es, ew]
    simp [encW]
    omega
  · rintro r g ⟨x4, x5, x6, x7, x8, x9, x10, x11, x12, rfl⟩
    rw [rng_len, wsl_WS hl1]
    simp [nxThen, RPost]

theorem cont_gen {G : Type} {Post : Out G → Prop} {t : MS G} {o o' : Out G} (h : o = o') (p : nxThen Post t o') : nxThen Post t o := h ▸ p
theorem runD_erA {e : Er} {k m : Nat} {b : MS Unit} {ds : List PyData} (hk : ds.length = k) (h : ∃ r, b (envOf m ds) () = .er e r ()) : runD k m b ds = .er e () := by
  obtain ⟨r, h⟩ := h
  unfold runD
  rw [if_pos hk, h]
theorem GoodW.take {w : List Arb} (gw : GoodW w) {n : Nat} (hn : 1 ≤ n) : GoodW (w.take n) := by
  obtain ⟨h1, h2, h3⟩ := gw
  refine ⟨by rw [List.length_take]; omega, by rw [List.length_take]; omega, fun i a ha => ?_⟩
  rw [List.getElem?_take] at ha
  split at ha
  · exact h3 i a ha
  · cases ha
theorem GoodH.take {m : Nat} {hs : List Hnd} (gh : GoodH m hs) (n : Nat) : GoodH m (hs.take n) := by
  obtain ⟨h1, h2, h3⟩ := gh
  refine ⟨by rw [List.length_take]; omega, ?_, fun h hh => h3 h (List.mem_of_mem_take hh)⟩
  rw [List.map_take]
  exact h2.sublist (List.take_sublist _ _)
theorem take_snoc {A : Type} {l : List A} {i : Nat} {a : A} (h : l[i]? = some a) : l.take (i + 1) = l.take i ++ [a] := by
  rw [List.take_add_one, h]
  rfl
def tn (k : Nat) : Str := match k with
  | 0 => "ha"
  | 1 => "hb"
  | 2 => "hc"
  | _ => "hd"
theorem tn_good (k : Nat) : isNm (tn k) := by
  match k with
  | 0 => exact ⟨rfl, by decide +kernel⟩
  | 1 => exact ⟨rfl, by decide +kernel⟩
  | 2 => exact ⟨rfl, by decide +kernel⟩
  | n + 3 => exact ⟨rfl, (by decide +kernel : sok "hd" = true)⟩
theorem tn_made (k : Nat) (h : k < 4) : ∃ c, oIx (.dat (.str "abcd")) (.dat (.int (k : Nat))) = some c ∧ oAdd (.dat (.str "h")) c = some (.dat (.str (tn k))) := by
  match k, h with
  | 0, _ => exact ⟨_, rfl, rfl⟩
  | 1, _ => exact ⟨_, rfl, rfl⟩
  | 2, _ => exact ⟨_, rfl, rfl⟩
  | 3, _ => exact ⟨_, rfl, rfl⟩
  | n + 4, h => omega
theorem tn_nd : ∀ k, k ≤ 4 → ((List.range k).map tn).Nodup := by
  intro k h
  match k, h with
  | 0, _ => decide
  | 1, _ => decide +kernel
  | 2, _ => decide +kernel
  | 3, _ => decide +kernel
  | 4, _ => decide +kernel
  | n + 5, h => omega
def TabH (M : Int) (i : Nat) (h : Hnd) : Prop := h.1 = tn i ∧ h.2.1 = (i : Nat) ∧ 1 ≤ h.2.2 ∧ h.2.2 ≤ M
theorem tab_good {m : Nat} {M : Int} {hs : List Hnd} (hl : hs.length ≤ m) (h4 : hs.length ≤ 4) (hM : M ≤ 60) (h : ∀ i y, hs[i]? = some y → TabH M i y) : GoodH m hs := by
  have e : hs.map (·.1) = (List.range hs.length).map tn := by
    refine List.ext_getElem? fun i => ?_
    rw [List.getElem?_map, List.getElem?_map]
    by_cases hi : i < hs.length
    · have h1 := List.getElem?_eq_getElem hi
      rw [h1, List.getElem?_range hi]
      simp [(h i _ h1).1]
    · rw [List.getElem?_eq_none (by omega), List.getElem?_eq_none (by simpa using hi)]
      rfl
  refine ⟨by omega, by rw [e]; exact tn_nd _ h4, fun y hy => ?_⟩
  obtain ⟨i, hi⟩ := List.mem_iff_getElem?.mp hy
  have hlt := (List.getElem?_eq_some_iff.mp hi).1
  obtain ⟨h1, h2, h3, h5⟩ := h i y hi
  refine ⟨by rw [h1]; exact tn_good i, by omega, by omega, h3, by omega⟩
theorem tab_dice {n : Nat} (hn : n ≤ 4) {M : Int} (h0 : 0 < M) (h1 : M ≤ 60) {r : CW.Env} {tg : MG} {tt : MT DG} {e : ME DG} {g : DG} (rd : Ready g)
    (h : ∀ k : Nat, k < n → ∀ g, Ready g → ∃ r1, tg (.dat (.int (k : Nat))) r = some r1 ∧ tt r1 g = .ok true g ∧ ∀ c, oIx (.dat (.str "abcd")) (.dat (.int (k : Nat))) = some c → oAdd (.dat (.str "h")) c = some (.dat (.str (tn k))) → ∀ m g', f__law_next [.int M] g = .ok (.dat (.int m)) g' →
      e r1 g = .ok (.dat (.tuple [.str (tn k), .int (k : Nat), .int (1 + m)])) g') :
    ∃ (hs : List Hnd) (g' : DG), lcGo r tg tt e (rngL 0 n) [] g = .ok (hs.map encH) g' ∧ hs.length = n ∧ (∀ i y, hs[i]? = some y → TabH M i y) ∧ Ready g' := by
  obtain ⟨ys, g', a1, a2, a3, a4⟩ := lc_diceI (r := r) (tg := tg) (tt := tt) (e := e) encH (TabH M) (rngL 0 n) [] 0 g rd (fun k d hd g rd => by
    obtain ⟨hk, rfl⟩ := rng_at hd
    rw [Int.zero_add]
    obtain ⟨r1, h1', h2, h3⟩ := h k hk g rd
    obtain ⟨c, c1, c2⟩ := tn_made k (by omega)
    obtain ⟨m, g', e1, m0, m1, rd'⟩ := next_ok rd (many := M) h0 (by omega)
    exact ⟨r1, g', (tn k, (k : Nat), 1 + m), _, h1', h2, h3 c c1 c2 m g' e1, rfl, by rw [Nat.zero_add]; exact ⟨rfl, rfl, by simp; omega, by simp; omega⟩, rd'⟩)
  rw [List.nil_append] at a1
  rw [rng_len] at a2
  exact ⟨ys, g', a1, a2, fun i y hy => by have := a3 i y hy; rwa [Nat.zero_add] at this, a4⟩

def encWn (n : List (Int × Int)) : PyData := .tuple (n.map encP)
abbrev Sn := Int × Int × Int
def encSn (s : Sn) : PyData := .tuple [.int s.1, .int s.2.1, .int s.2.2]
def mkN (w : List Arb) (hs : List Hnd) (n : List (Int × Int)) (b : Int) : List Int := hs.map (mk w (WS w n b))
/-- what was seen would be so -/
def fit1 (w : List Arb) (hs : List Hnd) (n : List (Int × Int)) (s : Sn) : Bool := (mkN w hs n s.1).getD s.2.1.toNat 0 == s.2.2
def fitB (w : List Arb) (hs : List Hnd) (n : List (Int × Int)) (S : List Sn) : Bool := S.all (fit1 w hs n)
def SnOk (hs : List Hnd) (s : Sn) : Prop := (0 ≤ s.1 ∧ s.1 ≤ 1000000) ∧ (0 ≤ s.2.1 ∧ s.2.1 < hs.length) ∧ ∀ h, hs[s.2.1.toNat]? = some h → 0 ≤ s.2.2 ∧ s.2.2 < h.2.2
def sing (w : List Arb) (k : Nat) : List (List (Int × Int)) := [] :: (List.range k).flatMap fun i => (List.range (w.getD (i + 1) zA).2.1.toNat).map fun t => [(((i + 1 : Nat) : Int), ((t : Nat) : Int))]
def sings (w : List Arb) : List (List (Int × Int)) := sing w (w.length - 1)
theorem sing_succ (w : List Arb) (k : Nat) : sing w (k + 1) = sing w k ++ (List.range (w.getD (k + 1) zA).2.1.toNat).map fun t => [(((k + 1 : Nat) : Int), ((t : Nat) : Int))] := by
  simp [sing, List.range_succ]
theorem sing_len {w : List Arb} (gw : GoodW w) : ∀ k, k < w.length → (sing w k).length ≤ 1 + 99 * k
  | 0, _ => by simp [sing]
  | k + 1, h => by
    have ih := sing_len gw k (by omega)
    rw [sing_succ, List.length_append, List.length_map, List.length_range]
    have ha : w[k + 1]? = some w[k + 1] := List.getElem?_eq_getElem h
    have := gw.arb ha (by omega)
    rw [getD_of ha]
    omega
theorem sings_len {w : List Arb} (gw : GoodW w) : (sings w).length ≤ 1000 := by
  have h1 := gw.1
  have h2 := gw.2.1
  have := sing_len gw (w.length - 1) (by omega)
  unfold sings
  omega
theorem sings_good {w : List Arb} (gw : GoodW w) {n : List (Int × Int)} (h : n ∈ sings w) : GoodN w n ∧ n.length ≤ 1 := by
  unfold sings sing at h
  have h1 := gw.1
  rcases List.mem_cons.mp h with rfl | h
  · exact ⟨gn_nil w, by simp⟩
  · obtain ⟨i, hi, h⟩ := List.mem_flatMap.mp h
    obtain ⟨t, ht, rfl⟩ := List.mem_map.mp h
    rw [List.mem_range] at hi ht
    have hl : i + 1 < w.length := by omega
    have ha : w[i + 1]? = some w[i + 1] := List.getElem?_eq_getElem hl
    have := gw.arb ha (by omega)
    rw [getD_of ha] at ht
    refine ⟨⟨by simp, fun p hp => ?_⟩, by simp⟩
    rw [List.mem_singleton.mp hp]
    refine ⟨by show (1 : Int) ≤ ((i + 1 : Nat) : Int); omega, by show ((i + 1 : Nat) : Int) < _; omega, fun a h => ?_⟩
    have h' : w[i + 1]? = some a := by simpa using h
    rw [ha] at h'
    cases h'
    simp only
    omega
theorem all_single_eq {w : List Arb} (gw : GoodW w) : f_all_single [encW w] = .ok (.own ((sings w).map encWn)) () := by
  have hl := gw.1
  have h8 := gw.2.1
  unfold f_all_single
  refine runD_is rfl (fun n e => nomatch e) ?_
  unfold b_all_single
  refine seq_gen fun t0 ht0 => ?_
  simp [envOf, nxThen]
  subst ht0
  refine seq_gen fun t0 ht0 => ?_
  refine for_in (items := rngL 1 (w.length - 1)) (g1 := ()) (fun i r _ => ∃ x2 x3 : Option Vl, r = [some (.dat (encW w)), some (.own ((sing w i).map encWn)), x2, x3]) ?_ ⟨none, none, by simp [sing, encWn]⟩ ?_ ?_
  · have q1 : (w.length : Int) ≤ 100000000 := by omega
    have q2 : -100000000 ≤ (w.length : Int) := by omega
    simp [encW, q1, q2]
  · rintro i d r g hd ⟨x2, x3, rfl⟩
    obtain ⟨hi, rfl⟩ := rng_at hd
    rw [show (1 : Int) + (i : Nat) = ((i + 1 : Nat) : Int) by omega]
    have hlt : i + 1 < w.length := by omega
    have ha : w[i + 1]? = some w[i + 1] := List.getElem?_eq_getElem hlt
    obtain ⟨p1, p2, p3, p4, p5, p6⟩ := gw.arb ha (by omega)
    have e1 : atI (w.map encA) ((i + 1 : Nat) : Int) = some (encA w[i + 1]) := encW_get (by omega) (by simpa using ha)
    obtain ⟨T, hT⟩ : ∃ T : Nat, w[i + 1].2.1 = (T : Nat) := ⟨w[i + 1].2.1.toNat, by omega⟩
    have sl := sing_len gw i (by omega)
    have l1 : (sing w i).length + T ≤ 100000 := by omega
    have lT : T ≤ 1000000 := by omega
    have q1 : (T : Int) ≤ 100000000 := by omega
    have q2 : -100000000 ≤ (T : Int) := by omega
    have es : (sing w (i + 1)).map encWn = (sing w i).map encWn ++ (List.range T).map fun t => PyData.tuple [.tuple [.int ((i + 1 : Nat) : Int), .int (0 + ((t : Nat) : Int))]] := by
      rw [sing_succ, getD_of ha, hT, List.map_append, Int.toNat_natCast, List.map_map]
      congr 1
      refine List.map_congr_left fun t _ => ?_
      simp [encWn, encP]
    refine ⟨_, rfl, ?_⟩
    simp only [sExt, sLc]
    generalize ((i + 1 : Nat) : Int) = N at *
    have lc : ∀ (r : CW.Env) (tg : MG) (tt : MT Unit) (e : ME Unit), (∀ t : Nat, ∃ r1, tg (.dat (.int (0 + ((t : Nat) : Int)))) r = some r1 ∧ tt r1 () = .ok true () ∧ ∃ v, e r1 () = .ok v () ∧ v.frz = some (PyData.tuple [.tuple [.int N, .int (0 + ((t : Nat) : Int))]])) → lcGo r tg tt e (rngL 0 T) [] () = .ok ((List.range T).map fun t => PyData.tuple [.tuple [.int N, .int (0 + ((t : Nat) : Int))]]) () := fun r tg tt e hh =>
      lc_mapE (fun t : Nat => PyData.int (0 + ((t : Nat) : Int))) (fun t => PyData.tuple [.tuple [.int N, .int (0 + ((t : Nat) : Int))]]) (List.range T) r tg tt e fun t _ => hh t
    simp [encW, e1]
    simp [encA, hT, q1, q2, rng_len, lT]
    rw [lc _ _ _ _ fun t => ⟨_, rfl, rfl, .dat (.tuple [.tuple [.int N, .int (0 + ((t : Nat) : Int))]]), by simp, rfl⟩]
    simp [l1, Out.after, es]
  · rintro r g ⟨x2, x3, rfl⟩
    simp [nxThen]
    subst ht0
    simp [RPost, rng_len, sings]
theorem fitB_app (w : List Arb) (hs : List Hnd) (n : List (Int × Int)) (S : List Sn) (s : Sn) : fitB w hs n (S ++ [s]) = (fitB w hs n S && fit1 w hs n s) := by
  simp [fitB]
theorem mkN_get {w : List Arb} {hs : List Hnd} {n : List (Int × Int)} {b k : Int} (k0 : 0 ≤ k) (k1 : k < hs.length) : atI (encI (mkN w hs n b)) k = some (.int ((mkN w hs n b).getD k.toNat 0)) := by
  have hl : (mkN w hs n b).length = hs.length := by simp [mkN]
  have h : (mkN w hs n b)[k.toNat]? = some (mkN w hs n b)[k.toNat] := List.getElem?_eq_getElem (by omega)
  rw [getD_of h]
  exact encI_get k0 h
theorem fits_eq {w : List Arb} (gw : GoodW w) {hs : List Hnd} (gh : GoodH w.length hs) {n : List (Int × Int)} (gn : GoodN w n) (hn : n.length ≤ 1000) {S : List Sn} (h : ∀ s ∈ S, SnOk hs s) :
    f_fits [encW w, encHs hs, encWn n, .list (S.map encSn)] = .ok (.dat (.bool (fitB w hs n S))) () := by
  unfold f_fits
  refine runD_is rfl (fun n e => nomatch e) ?_
  unfold b_fits
  refine seq_gen fun t0 ht0 => ?_
  refine for_in (Post := nxThen (RPost fun w_1 x => w_1 = Vl.dat (PyData.bool (fitB w hs n S))) t0) (items := S.map encSn) (g1 := ()) (fun i r _ => fitB w hs n (S.take i) = true ∧ ∃ x4 x5 x6, r = [some (.dat (encW w)), some (.dat (encHs hs)), some (.dat (encWn n)), some (.dat (.list (S.map encSn))), x4, x5, x6]) (by simp [envOf]) ⟨rfl, none, none, none, by simp [envOf]⟩ ?_ ?_
  · rintro i d r g hd ⟨hall, x4, x5, x6, rfl⟩
    rw [List.getElem?_map] at hd
    cases hp : S[i]? with
    | none => rw [hp] at hd; cases hd
    | some s =>
      rw [hp] at hd
      cases hd
      obtain ⟨⟨b0, b1⟩, ⟨k0, k1⟩, _⟩ := h s (List.mem_of_getElem? hp)
      have e1 := worn_steps_of_eq gw gn hn b0 b1
      have e2 := marks_eq gw gh (WS_len w n s.1) (WS_big gw gn b0 b1)
      have e3 : atI (encI (hs.map (mk w (WS w n s.1)))) s.2.1 = some (.int ((mkN w hs n s.1).getD s.2.1.toNat 0)) := mkN_get k0 k1
      refine ⟨[some (.dat (encW w)), some (.dat (encHs hs)), some (.dat (encWn n)), some (.dat (.list (S.map encSn))), some (.dat (.int s.1)), some (.dat (.int s.2.1)), some (.dat (.int s.2.2))], by simp [encSn], ?_⟩
      unfold encWn
      generalize hx : (mkN w hs n s.1).getD s.2.1.toNat 0 = x at e3
      generalize hs.map (mk w (WS w n s.1)) = L at e2 e3
      by_cases c : x = s.2.2
      · have f1 : fit1 w hs n s = true := by
          unfold fit1
          rw [hx, c]
          simp
        simp [e1, e2, e3, c, Out.after]
        rw [take_snoc hp, fitB_app, hall, f1]
        rfl
      · have f1 : fitB w hs n S = false := by
          unfold fitB
          rw [List.all_eq_false]
          refine ⟨s, List.mem_of_getElem? hp, ?_⟩
          unfold fit1
          rw [hx]
          simpa using c
        simp [e1, e2, e3, c, Out.after, nxThen, f1, RPost]
  · rintro r g ⟨hall, x4, x5, x6, rfl⟩
    simp [nxThen]
    subst ht0
    rw [List.length_map, List.take_length] at hall
    simp [RPost, hall]
theorem suspects_eq {w : List Arb} (gw : GoodW w) {hs : List Hnd} (gh : GoodH w.length hs) {S : List Sn} (h : ∀ s ∈ S, SnOk hs s) (e3 : f_need_seen [encHs hs, .list (S.map encSn)] = .ok (.dat .none) ()) :
    f_suspects [encW w, encHs hs, .list (S.map encSn)] = .ok (.own (((sings w).filter fun n => fitB w hs n S).map encWn)) () := by
  have e1 := need_works_eq gw
  have e2 := need_hands_eq gh
  have e4 := all_single_eq gw
  have sl := sings_len gw
  have l6 : (sings w).length ≤ 1000000 := by omega
  unfold f_suspects
  refine runD_is rfl (fun n e => nomatch e) ?_
  unfold b_suspects
  refine seq_gen fun t0 ht0 => ?_
  simp [envOf, e1, nxThen]
  subst ht0
  refine seq_gen fun t0 ht0 => ?_
  simp [e2, nxThen]
  subst ht0
  refine seq_gen fun t0 ht0 => ?_
  simp [e3, nxThen]
  subst ht0
  simp only [sRet, sLc, CW.iSeq, sCallP]
  simp [e4, l6]
  rw [lc_filterE encWn (fun n => fitB w hs n S) encWn (sings w) _ _ _ _ _ fun n hn => ?_]
  · simp [RPost]
  · obtain ⟨g1, g2⟩ := sings_good gw hn
    have e5 := fits_eq gw gh g1 (by omega) h
    exact ⟨_, rfl, by simp [e5], fun _ => ⟨.dat (encWn n), by simp, rfl⟩⟩
@[simp] def pk1 (o : Option (List FV)) : Option Vl → Option Vl
  | some (.dat d) => some (.dat d)
  | some (.own l) => some (.dat (.list l))
  | some (.tok n) => if n = TN then o.map fun fs => .dat (.list (frzG fs)) else none
  | _ => none
theorem hand_at {hs : List Hnd} {k : Int} (k0 : 0 ≤ k) (k1 : k < hs.length) : ∃ y, hs[k.toNat]? = some y ∧ atI (hs.map encH) k = some (encH y) := by
  obtain ⟨y, hy⟩ : ∃ y, hs[k.toNat]? = some y := ⟨_, List.getElem?_eq_getElem (by omega)⟩
  exact ⟨y, hy, atI_nat' k0 (by rw [List.getElem?_map, hy]; rfl)⟩
theorem nhand_ok {hs : List Hnd} {k : Int} (k0 : 0 ≤ k) (k1 : k < hs.length) : f_need_hand [encHs hs, .int k] = .ok (.dat .none) () := by
  simp [f_need_hand, b_need_hand, encHs, k0, k1]
def ErrIs7 (e : Er) (o : Out Unit) : Prop := ∃ r, o = .er e r ()
/-- one look -/
theorem seen_turn {hs : List Hnd} {s : Sn} {L : PyData} {i : Int} (ok : SnOk hs s) : ∀ t : MS Unit, t = (sSeq (sTryR ["BadBeats", "NoHand"] 6 "BadSeen" (sSeq (sDrop (sCallP (fun ds => f_need_beats (ds ++ [.int 1000000])) (sCons (sV 3) sNil)))
    (sDrop (sCallP f_need_hand (sCons (sV 0) (sCons (sV 4) sNil))))) (sV 2))
    (sIfS (sNot (sTst (sChain oLe oLt (sC (.int 0)) (sV 5) (sOp oIx (sOp oIx (sV 0) (sV 4)) (sC (.int 2)))))) (sRaiseA "BadSeen" (sV 2)) sNext)) →
    t [some (.dat (encHs hs)), some (.dat L), some (.dat (.int i)), some (.dat (.int s.1)), some (.dat (.int s.2.1)), some (.dat (.int s.2.2)), none] () = .nx [some (.dat (encHs hs)), some (.dat L), some (.dat (.int i)), some (.dat (.int s.1)), some (.dat (.int s.2.1)), some (.dat (.int s.2.2)), none] () := by
  rintro t rfl
  obtain ⟨⟨b0, b1⟩, ⟨k0, k1⟩, m⟩ := ok
  obtain ⟨b, k, x⟩ := s
  simp only at b0 b1 k0 k1 m
  obtain ⟨y, hy, e3⟩ := hand_at k0 k1
  obtain ⟨m0, m1⟩ := m y hy
  have e1 := needb (b := b) (m := 1000000) b0 b1
  have e2 := nhand_ok k0 k1
  simp only [sSeq, sTryR, sDrop, sCallP, sCons, sNil, sV]
  simp [e1, e2]
  simp [encHs, e3]
  simp [encH, m0, m1]
theorem seen_bad {hs : List Hnd} {s : Sn} {L : PyData} {i : Int} (ok : ¬ SnOk hs s) : ∀ t : MS Unit, t = (sSeq (sTryR ["BadBeats", "NoHand"] 6 "BadSeen" (sSeq (sDrop (sCallP (fun ds => f_need_beats (ds ++ [.int 1000000])) (sCons (sV 3) sNil)))
    (sDrop (sCallP f_need_hand (sCons (sV 0) (sCons (sV 4) sNil))))) (sV 2))
    (sIfS (sNot (sTst (sChain oLe oLt (sC (.int 0)) (sV 5) (sOp oIx (sOp oIx (sV 0) (sV 4)) (sC (.int 2)))))) (sRaiseA "BadSeen" (sV 2)) sNext)) →
    ∃ r, t [some (.dat (encHs hs)), some (.dat L), some (.dat (.int i)), some (.dat (.int s.1)), some (.dat (.int s.2.1)), some (.dat (.int s.2.2)), none] () = .er ⟨"BadSeen", some i⟩ r () := by
  rintro t rfl
  obtain ⟨b, k, x⟩ := s
  by_cases hb : 0 ≤ b ∧ b ≤ 1000000
  · have e1 := needb (b := b) (m := 1000000) hb.1 hb.2
    by_cases hk : 0 ≤ k ∧ k < hs.length
    · obtain ⟨y, hy, e3⟩ := hand_at hk.1 hk.2
      have e2 := nhand_ok hk.1 hk.2
      have hx : ¬ (0 ≤ x ∧ x < y.2.2) := fun z => ok ⟨hb, hk, fun h hh => by
        have hh' : hs[k.toNat]? = some h := hh
        rw [hy] at hh'
        cases hh'
        exact z⟩
      refine ⟨[some (.dat (encHs hs)), some (.dat L), some (.dat (.int i)), some (.dat (.int b)), some (.dat (.int k)), some (.dat (.int x)), none], ?_⟩
      simp only [sSeq, sTryR, sDrop, sCallP, sCons, sNil, sV]
      simp [e1, e2]
      simp [encHs, e3]
      by_cases x0 : 0 ≤ x
      · have x1 : ¬ x < y.2.2 := fun z => hx ⟨x0, z⟩
        simp [encH, x0, x1]
      · simp [encH, x0]
    · have e2 := need_hand_bad hk
      refine ⟨[some (.dat (encHs hs)), some (.dat L), some (.dat (.int i)), some (.dat (.int b)), some (.dat (.int k)), some (.dat (.int x)), none], ?_⟩
      simp only [sSeq, sTryR, sDrop, sCallP, sCons, sNil, sV]
      simp [e1, e2]
  · have e1 := need_beats_bad hb
    refine ⟨[some (.dat (encHs hs)), some (.dat L), some (.dat (.int i)), some (.dat (.int b)), some (.dat (.int k)), some (.dat (.int x)), none], ?_⟩
    simp only [sSeq, sTryR, sDrop, sCallP, sCons, sNil, sV]
    simp [e1]
theorem need_seen_eq7 {hs : List Hnd} {S : List Sn} (h : ∀ s ∈ S, SnOk hs s) : f_need_seen [encHs hs, .list (S.map encSn)] = .ok (.dat .none) () := by
  unfold f_need_seen
  refine runD_is rfl (fun n e => nomatch e) ?_
  unfold b_need_seen
  refine for_in (items := enumL 0 (S.map encSn)) (g1 := ()) (fun _ r _ => ∃ x2 x3 x4 x5, r = [some (.dat (encHs hs)), some (.dat (.list (S.map encSn))), x2, x3, x4, x5, none]) (by simp [envOf]) ⟨none, none, none, none, by simp [envOf]⟩ ?_ ?_
  · rintro i d r g hd ⟨x2, x3, x4, x5, rfl⟩
    obtain ⟨e, he, rfl⟩ := enum_at hd
    rw [List.getElem?_map] at he
    cases hp : S[i]? with
    | none => rw [hp] at he; cases he
    | some s =>
      rw [hp] at he
      cases he
      refine ⟨[some (.dat (encHs hs)), some (.dat (.list (S.map encSn))), some (.dat (.int (i : Nat))), some (.dat (.int s.1)), some (.dat (.int s.2.1)), some (.dat (.int s.2.2)), none], by simp [encSn], ?_⟩
      rw [seen_turn (h s (List.mem_of_getElem? hp)) _ rfl]
      exact ⟨_, _, _, _, rfl⟩
  · rintro r g ⟨x2, x3, x4, x5, rfl⟩
    simp [RPost]
theorem need_seen_bad7 {hs : List Hnd} {S : List Sn} {m : Nat} {s0 : Sn} (hm : S[m]? = some s0) (hb : ¬ SnOk hs s0) (h : ∀ j s, j < m → S[j]? = some s → SnOk hs s) : f_need_seen [encHs hs, .list (S.map encSn)] = .er ⟨"BadSeen", some (m : Nat)⟩ () := by
  have hml := (List.getElem?_eq_some_iff.mp hm).1
  unfold f_need_seen
  refine runD_erA rfl ?_
  suffices hs' : ErrIs7 ⟨"BadSeen", some (m : Nat)⟩ (b_need_seen (envOf 7 [encHs hs, .list (S.map encSn)]) ()) from hs'
  unfold b_need_seen
  refine for_in (items := enumL 0 (S.map encSn)) (g1 := ()) (fun i r _ => i ≤ m ∧ ∃ x2 x3 x4 x5, r = [some (.dat (encHs hs)), some (.dat (.list (S.map encSn))), x2, x3, x4, x5, none]) (by simp [envOf]) ⟨Nat.zero_le _, none, none, none, none, by simp [envOf]⟩ ?_ ?_
  · rintro i d r g hd ⟨hi, x2, x3, x4, x5, rfl⟩
    obtain ⟨e, he, rfl⟩ := enum_at hd
    rw [List.getElem?_map] at he
    cases hp : S[i]? with
    | none => rw [hp] at he; cases he
    | some s =>
      rw [hp] at he
      cases he
      refine ⟨[some (.dat (encHs hs)), some (.dat (.list (S.map encSn))), some (.dat (.int (i : Nat))), some (.dat (.int s.1)), some (.dat (.int s.2.1)), some (.dat (.int s.2.2)), none], by simp [encSn], ?_⟩
      by_cases c : i = m
      · subst c
        rw [hm] at hp
        cases hp
        obtain ⟨r, hr⟩ := seen_bad (L := .list (S.map encSn)) (i := (i : Nat)) hb _ rfl
        rw [hr]
        exact ⟨_, rfl⟩
      · rw [seen_turn (h i s (by omega) hp) _ rfl]
        exact ⟨by omega, _, _, _, _, rfl⟩
  · rintro r g ⟨hi, _⟩
    rw [enum_len, List.length_map] at hi
    omega
theorem pick07 {g : DG} (rd : Ready g) {l : List PyData} (hl : l ≠ []) (h : l.length ≤ 1000000) : ∃ x g', f__law_pick [.list l] g = .ok (.dat x) g' ∧ x ∈ l ∧ Ready g' := by
  have hp : 0 < l.length := List.length_pos_iff.mpr hl
  obtain ⟨k, g', e, a1, b1, rd'⟩ := next_ok rd (many := (l.length : Nat)) (by omega) (by omega)
  have hx : l[k.toNat]? = some l[k.toNat] := List.getElem?_eq_getElem (by omega)
  have ha : atI l k = some l[k.toNat] := atI_nat' a1 hx
  refine ⟨l[k.toNat], g', ?_, List.mem_of_getElem? hx, rd'⟩
  generalize l[k.toNat] = x at *
  simp [f__law_pick, b__law_pick, e, ha]
theorem law_marks7 {w : List Arb} (gw : GoodW w) {hs : List Hnd} (gh : GoodH w.length hs) {ms : List Int} (hl : ms.length = w.length) (hb : ∀ m ∈ ms, 0 ≤ m ∧ m ≤ 1000000000000000000000000000000) :
    f__law_marks [encW w, encHs hs, .list (encI ms)] = .ok (.own (encI (hs.map (mk w ms)))) () := by
  have hh : hs.length ≤ 1000000 := by have := gh.1; omega
  unfold f__law_marks
  refine runD_is rfl (fun n e => nomatch e) ?_
  simp only [b__law_marks, sRet, sLc, iSeq]
  simp [envOf, encHs, hh]
  rw [lc_mapE encH (fun h => .int (mk w ms h)) hs _ _ _ _ fun h hm => ?_]
  · simp [RPost, encI, Function.comp_def]
  · obtain ⟨a, ha⟩ : ∃ a, w[h.2.1.toNat]? = some a := ⟨_, List.getElem?_eq_getElem (by have := gh.2.2 h hm; omega)⟩
    obtain ⟨m, hmm⟩ : ∃ m, ms[h.2.1.toNat]? = some m := ⟨_, List.getElem?_eq_getElem (by have := gh.2.2 h hm; omega)⟩
    have q := gh.2.2 h hm
    have e1 : atI (w.map encA) h.2.1 = some (encA a) := encW_get (by omega) ha
    have e2 : atI (encI ms) h.2.1 = some (.int m) := encI_get (by omega) hmm
    obtain ⟨t1, t2⟩ := gw.turn ha
    obtain ⟨b1, b2⟩ := hb m (List.mem_of_getElem? hmm)
    have s1 : small m = true := small_of (by omega) (by omega)
    have s2 : small h.2.2 = true := small_of (by omega) (by omega)
    have s3 : a.2.2 < BIG := by rw [BIG_eq]; omega
    have s4 : 0 < a.2.2 := by omega
    have s5 : h.2.2 < BIG := by rw [BIG_eq]; omega
    have s6 : 0 < h.2.2 := by omega
    refine ⟨_, rfl, rfl, .dat (.int (mk w ms h)), ?_, rfl⟩
    simp [encW, e1, e2, s1, s2]
    simp [encA, s3, s4, s5, s6]
    simp only [mk]
    rw [getD_of ha, getD_of hmm]
theorem suspects_bad7 {w : List Arb} (gw : GoodW w) {hs : List Hnd} (gh : GoodH w.length hs) {S : List Sn} {m : Nat} (e3 : f_need_seen [encHs hs, .list (S.map encSn)] = .er ⟨"BadSeen", some (m : Nat)⟩ ()) :
    f_suspects [encW w, encHs hs, .list (S.map encSn)] = .er ⟨"BadSeen", some (m : Nat)⟩ () := by
  simp [f_suspects, b_suspects, need_works_eq gw, need_hands_eq gh, e3]
theorem like07_0i (i : Int) : f__law_like_0 [.int i, .int i] = .ok (.dat (.bool true)) () := by
  simp [f__law_like_0, b__law_like_0, deq]
theorem like07_3 (L : List (List (Int × Int))) (hL : L.length ≤ 100000) (hn : ∀ n ∈ L, n.length ≤ 100000) : f__law_like_3 [.list (L.map encWn), .list (L.map encWn)] = .ok (.dat (.bool true)) () := by
  refine (likeB_seq f__law_like_2 _ (by simpa using hL) fun x hx => ?_).1
  obtain ⟨n, hm, rfl⟩ := List.mem_map.mp hx
  refine (likeB_seq f__law_like_1 _ (by have := hn n hm; simpa using this) fun x hx => ?_).2
  obtain ⟨p, _, rfl⟩ := List.mem_map.mp hx
  refine (likeB_seq f__law_like_0 _ (by simp) fun x hx => ?_).2
  simp only [List.mem_cons, List.not_mem_nil, or_false] at hx
  rcases hx with rfl | rfl <;> exact like07_0i _
theorem like07_r (z y : Str) (h : sok z = true) (h2 : sok y = true) (k : Int) : f__law_like_3 [.tuple [.str z, .str y, .int k], .tuple [.str z, .str y, .int k]] = .ok (.dat (.bool true)) () := by
  refine (likeB_seq f__law_like_2 _ (by simp) fun x hx => ?_).2
  simp only [List.mem_cons, List.not_mem_nil, or_false] at hx
  rcases hx with rfl | rfl | rfl
  · exact likeB_str f__law_like_1 z h
  · exact likeB_str f__law_like_1 y h2
  · exact likeB_int f__law_like_1 k
/-- what is wrong with the looks so far -/
def SeenSt (hs : List Hnd) (S : List Sn) (d : PyData) : Prop := (d = .none ∧ ∀ s ∈ S, SnOk hs s) ∨ ∃ (m : Nat) (s0 : Sn), d = .int (m : Nat) ∧ S[m]? = some s0 ∧ ¬ SnOk hs s0 ∧ ∀ j s, j < m → S[j]? = some s → SnOk hs s
theorem SeenSt.good {hs : List Hnd} {S : List Sn} {d : PyData} (h : SeenSt hs S d) {s : Sn} (ok : SnOk hs s) : SeenSt hs (S ++ [s]) d := by
  rcases h with ⟨h1, h2⟩ | ⟨m, s0, h1, h2, h3, h4⟩
  · refine .inl ⟨h1, fun x hx => ?_⟩
    rcases List.mem_append.mp hx with hx | hx
    · exact h2 x hx
    · rw [List.mem_singleton.mp hx]; exact ok
  · have hl := (List.getElem?_eq_some_iff.mp h2).1
    refine .inr ⟨m, s0, h1, by rw [List.getElem?_append_left hl]; exact h2, h3, fun j x hj hx => h4 j x hj ?_⟩
    rwa [List.getElem?_append_left (by omega)] at hx
theorem SeenSt.bad {hs : List Hnd} {S : List Sn} {d : PyData} (h : SeenSt hs S d) {s : Sn} (ok : ¬ SnOk hs s) : SeenSt hs (S ++ [s]) (if isNon d then .int (S.length : Nat) else d) := by
  rcases h with ⟨rfl, h2⟩ | ⟨m, s0, rfl, h2, h3, h4⟩
  · refine .inr ⟨S.length, s, rfl, by simp, ok, fun j x hj hx => h2 x ?_⟩
    rw [List.getElem?_append_left hj] at hx
    exact List.mem_of_getElem? hx
  · have hl := (List.getElem?_eq_some_iff.mp h2).1
    refine .inr ⟨m, s0, rfl, by rw [List.getElem?_append_left hl]; exact h2, h3, fun j x hj hx => h4 j x hj ?_⟩
    rwa [List.getElem?_append_left (by omega)] at hx
theorem odd07 {hs : List Hnd} {b k x : Int} {y : Hnd} (k0 : 0 ≤ k) (k1 : k < hs.length) (hy : hs[k.toNat]? = some y) {d : PyData} (h : d ∈ [PyData.tuple [.int (-1), .int k, .int x], .tuple [.int b, .int (hs.length : Nat), .int x], .tuple [.int b, .int k, .int y.2.2], .tuple [.int b, .int (-1), .int 0], .tuple [.int 1000001, .int k, .int x], .tuple [.int b, .int k, .int (-1)]]) :
    ∃ s : Sn, d = encSn s ∧ ¬ SnOk hs s := by
  simp only [List.mem_cons, List.not_mem_nil, or_false] at h
  rcases h with rfl | rfl | rfl | rfl | rfl | rfl
  · exact ⟨(-1, k, x), rfl, fun z => by have := z.1.1; simp only at this; omega⟩
  · exact ⟨(b, (hs.length : Nat), x), rfl, fun z => by have := z.2.1.2; simp only at this; omega⟩
  · exact ⟨(b, k, y.2.2), rfl, fun z => by have := (z.2.2 y hy).2; simp only at this; omega⟩
  · exact ⟨(b, -1, 0), rfl, fun z => by have := z.2.1.1; simp only at this; omega⟩
  · exact ⟨(1000001, k, x), rfl, fun z => by have := z.1.2; simp only at this; omega⟩
  · exact ⟨(b, k, -1), rfl, fun z => by have := (z.2.2 y hy).1; simp only at this; omega⟩
def mk7 (w : List Arb) (hs : List Hnd) (n : List (Int × Int)) (s : Sn) : Int := (mkN w hs n s.1).getD s.2.1.toNat 0
theorem all_map {A : Type} (f g : A → Int) (S : List A) : S.all (fun s => f s == g s) = decide (S.map f = S.map g) := by
  induction S with
  | nil => simp
  | cons s S ih =>
    rw [List.all_cons, ih]
    by_cases c : f s = g s
    · simp [c]
    · simp [c]
theorem fit_map (w : List Arb) (hs : List Hnd) (n : List (Int × Int)) (S : List Sn) : fitB w hs n S = decide (S.map (mk7 w hs n) = S.map fun s => s.2.2) := all_map (mk7 w hs n) (fun s => s.2.2) S
theorem law_true (ns : List Int) (h : ns.length ≤ 63) : ∃ g', f_law [] ⟨ns, none⟩ = .ok (.dat (.bool true)) g' := by
  obtain ⟨g0, e0, rd0⟩ := dice_ok ns h
  suffices hs : ∃ v g', f_law [] ⟨ns, none⟩ = .ok v g' ∧ v = .dat (.bool true) by
    obtain ⟨v, g', h1, rfl⟩ := hs
    exact ⟨g', h1⟩
  unfold f_law
  refine runT_post rfl ?_
  unfold b_law
  have k0 : sok ("refused" : Str) = true := by decide +kernel
  have k1 : sok ("BadSeen" : Str) = true := by decide +kernel
  refine seq_gen fun t0 ht0 => ?_
  simp [envOfT, e0, nxThen]
  subst ht0
  refine seq_gen fun t0 ht0 => ?_
  refine for_in (items := rngL 0 3) (g1 := g0) (fun _ r g => Ready g ∧ ∃ x2 x3 x4 x5 x6 x7 x8 x9 x10 x11 x12 x13 x14 x15 x16 x17 x18 x19, r = [some (.tok 0), some (.tok 1), x2, x3, x4, x5, x6, x7, x8, x9, x10, x11, x12, x13, x14, x15, x16, x17, x18, x19]) (rng1_ok rfl (by decide) (by decide) rfl) ⟨rd0, none, none, none, none, none, none, none, none, none, none, none, none, none, none, none, none, none, none, rfl⟩ ?_ ?_
  · rintro i d r g hd ⟨rdA, x2, x3, x4, x5, x6, x7, x8, x9, x10, x11, x12, x13, x14, x15, x16, x17, x18, x19, rfl⟩
    obtain ⟨hi, rfl⟩ := rng_at hd
    obtain ⟨v, g1, e1, w, rfl, gw, wl4, rd1⟩ := works_ok rdA (u := 4) (t := 14) (by decide) (by decide) (by decide) (by decide)
    have w1 := gw.1
    have w8 := gw.2.1
    have lW : bLen [.dat (encW w)] = some (.dat (.int w.length)) := by simp [encW]
    refine ⟨[some (.tok 0), some (.tok 1), some (.dat (.int (0 + (i : Nat)))), x3, x4, x5, x6, x7, x8, x9, x10, x11, x12, x13, x14, x15, x16, x17, x18, x19], rfl, ?_⟩
    generalize some (Vl.dat (.int (0 + (i : Nat)))) = xi
    refine seq_gen fun t1 ht1 => ?_
    simp [e1, nxThen]
    subst ht1
    -- the hands
    refine seq_gen fun t1 ht1 => ?_
    have q1 : (w.length : Int) ≤ 100000000 := by omega
    have q2 : -100000000 ≤ (w.length : Int) := by omega
    have q3 : w.length ≤ 1000000 := by omega
    obtain ⟨hs, g2, ehs, hl, tab, rd2⟩ := tab_dice (n := w.length) (by omega) (M := 30) (by decide) (by decide) (r := wipe [some (.tok 0), some (.tok 1), xi, some (.dat (encW w)), x4, x5, x6, x7, x8, x9, x10, x11, x12, x13, x14, x15, x16, x17, x18, x19] [5]) (tg := gN 5) (tt := sYes) (e := sTup (sCons (sOp oAdd (sC (.str "h")) (sOp oIx (sC (.str "abcd")) (sV 5))) (sCons (sV 5) (sCons (sOp oAdd (sC (.int 1)) (sCallT 1 f__law_next (sCons (sV 1) (sCons (sC (.int 30)) sNil)))) sNil)))) rd1 fun k hk g rd => ⟨_, rfl, rfl, fun c c1 c2 m g' em => by
      simp only [sTup, sCons, sNil, sOp, sC, sV]
      simp [-oIx, -oAdd, c1, c2, em]
      simp⟩
    have gh := tab_good (m := w.length) (by omega) (by omega) (by decide) tab
    have it : (CW.iRng1 (sB bLen (sCons (sV 3) sNil)) : MI DG) [some (.tok 0), some (.tok 1), xi, some (.dat (encW w)), x4, x5, x6, x7, x8, x9, x10, x11, x12, x13, x14, x15, x16, x17, x18, x19] g1 = .ok (rngL 0 w.length) g1 := rng1_ok (j := (w.length : Nat)) (by simp [-bLen, lW]) (by omega) (by omega) (by simp)
    refine cont_gen (o' := .nx [some (.tok 0), some (.tok 1), xi, some (.dat (encW w)), some (.dat (encHs hs)), x5, x6, x7, x8, x9, x10, x11, x12, x13, x14, x15, x16, x17, x18, x19] g2) (by
      simp only [sAsg, sB, sCons, sNil, sLc]
      rw [it]
      simp only [R.bind_ok, rng_len, q3, if_true]
      rw [ehs]
      simp [encHs]) (nx_gen ?_)
    subst ht1
    obtain ⟨v, g3, e3, n, rfl, gn, nl2, _, rd3⟩ := worn_okU rd2 gw (u := 2) (by decide) (by decide)
    have nl10 : n.length ≤ 1000 := by omega
    have lH : bLen [.dat (encHs hs)] = some (.dat (.int hs.length)) := by simp [encHs]
    refine seq_gen fun t1 ht1 => ?_
    refine cont_gen (o' := .nx [some (.tok 0), some (.tok 1), xi, some (.dat (encW w)), some (.dat (encHs hs)), x5, some (.dat (encWn n)), some (.own []), some (.dat .none), x9, x10, x11, x12, x13, x14, x15, x16, x17, x18, x19] g3) (by
      simp [e3, encWn]) (nx_gen ?_)
    subst ht1
    -- the looks
    refine seq_gen fun t1 ht1 => ?_
    obtain ⟨k9, g4, e4, a4, b4, rd4⟩ := next_ok rd3 (many := 9) (by decide) (by decide)
    refine for_in (items := rngL 0 k9.toNat) (g1 := g4) (fun j r g => Ready g ∧ ∃ (S : List Sn) (dd : PyData) (z5 z9 z10 z11 z12 : Option Vl), S.length = j ∧ SeenSt hs S dd ∧ r = [some (.tok 0), some (.tok 1), xi, some (.dat (encW w)), some (.dat (encHs hs)), z5, some (.dat (encWn n)), some (.own (S.map encSn)), some (.dat dd), z9, z10, z11, z12, x13, x14, x15, x16, x17, x18, x19]) ?_ ⟨rd4, [], .none, x5, x9, x10, x11, x12, rfl, .inl ⟨rfl, fun s hs => absurd hs List.not_mem_nil⟩, rfl⟩ ?_ ?_
    · have q4 : k9 ≤ 100000000 := by omega
      have q5 : -100000000 ≤ k9 := by omega
      simp [e4, q4, q5]
    · rintro j d r g hd ⟨rdB, S, dd, z5, z9, z10, z11, z12, hS, st, rfl⟩
      obtain ⟨hj, rfl⟩ := rng_at hd
      rw [Int.zero_add]
      refine ⟨_, rfl, ?_⟩
      obtain ⟨c2, g5, e5, a5, b5, rd5⟩ := next_ok rdB (many := 2) (by decide) (by decide)
      obtain ⟨M, hM, hM0, hM1⟩ : ∃ M : Int, oIx (.own [.int 60, .int 3000]) (.dat (.int c2)) = some (.dat (.int M)) ∧ 0 < M ∧ M ≤ 3000 := by
        have : c2 = 0 ∨ c2 = 1 := by omega
        rcases this with rfl | rfl
        · exact ⟨60, by simp [CW.atI, CW.atN], by decide, by decide⟩
        · exact ⟨3000, by simp [CW.atI, CW.atN], by decide, by decide⟩
      obtain ⟨b, g6, e6, b0, b1, rd6⟩ := next_ok rd5 (many := M) hM0 (by omega)
      obtain ⟨k, g7, e7, k0, k1, rd7⟩ := next_ok rd6 (many := (hs.length : Nat)) (by omega) (by omega)
      obtain ⟨y, hy, ey⟩ := hand_at k0 k1
      have gy := gh.2.2 y (List.mem_of_getElem? hy)
      have els := law_steps_eq gw gn nl10 (b := b) (by omega) (by omega)
      have elm := law_marks7 gw gh (WS_len w n b) (WS_big gw gn (b := b) (by omega) (by omega))
      have em : atI (encI (hs.map (mk w (WS w n b)))) k = some (.int (mk w (WS w n b) y)) := encI_get k0 (by rw [List.getElem?_map, hy]; rfl)
      obtain ⟨m0, m1⟩ : 0 ≤ mk w (WS w n b) y ∧ mk w (WS w n b) y < y.2.2 := by
        unfold mk
        exact ⟨Int.emod_nonneg _ (by omega), Int.emod_lt_of_pos _ (by omega)⟩
      refine seq_gen fun t2 ht2 => ?_
      refine cont_gen (o' := .nx [some (.tok 0), some (.tok 1), xi, some (.dat (encW w)), some (.dat (encHs hs)), some (.dat (.int (j : Nat))), some (.dat (encWn n)), some (.own (S.map encSn)), some (.dat dd), some (.dat (.int b)), some (.dat (.int k)), z11, z12, x13, x14, x15, x16, x17, x18, x19] g7) (by
        simp [-oIx, -bLen, lH, e5, hM, e6, e7]) (nx_gen ?_)
      subst ht2
      refine seq_gen fun t2 ht2 => ?_
      generalize hMK : mk w (WS w n b) y = mm at *
      refine cont_gen (o' := .nx [some (.tok 0), some (.tok 1), xi, some (.dat (encW w)), some (.dat (encHs hs)), some (.dat (.int (j : Nat))), some (.dat (encWn n)), some (.own (S.map encSn)), some (.dat dd), some (.dat (.int b)), some (.dat (.int k)), some (.dat (.int mm)), z12, x13, x14, x15, x16, x17, x18, x19] g7) (by
        unfold encWn
        generalize encI (hs.map (mk w (WS w n b))) = EL at *
        simp [els, elm, em]) (nx_gen ?_)
      subst ht2
      obtain ⟨c12, g8, e8, a8, b8, rd8⟩ := next_ok rd7 (many := 12) (by decide) (by decide)
      obtain ⟨x, g9, x0, x1, rd9, e9⟩ : ∃ x g9, 0 ≤ x ∧ x < y.2.2 ∧ Ready g9 ∧ (sAsg (sIf (sTst (sOp oEq (sCallT 1 f__law_next (sCons (sV 1) (sCons (sC (.int 12)) sNil))) (sC (.int 0)))) (sCallT 1 f__law_next (sCons (sV 1) (sCons (sOp oIx (sOp oIx (sV 4) (sV 10)) (sC (.int 2))) sNil))) (sV 11)) (gN 11) : MS DG)
          [some (.tok 0), some (.tok 1), xi, some (.dat (encW w)), some (.dat (encHs hs)), some (.dat (.int (j : Nat))), some (.dat (encWn n)), some (.own (S.map encSn)), some (.dat dd), some (.dat (.int b)), some (.dat (.int k)), some (.dat (.int mm)), z12, x13, x14, x15, x16, x17, x18, x19] g7 =
          .nx [some (.tok 0), some (.tok 1), xi, some (.dat (encW w)), some (.dat (encHs hs)), some (.dat (.int (j : Nat))), some (.dat (encWn n)), some (.own (S.map encSn)), some (.dat dd), some (.dat (.int b)), some (.dat (.int k)), some (.dat (.int x)), z12, x13, x14, x15, x16, x17, x18, x19] g9 := by
        by_cases c : c12 = 0
        · obtain ⟨x, g9, e9, x0, x1, rd9⟩ := next_ok rd8 (many := y.2.2) (by omega) (by omega)
          refine ⟨x, g9, x0, x1, rd9, ?_⟩
          simp [e8, c, encHs, ey]
          simp [encH, e9]
        · exact ⟨mm, g8, m0, m1, rd8, by simp [e8, c]⟩
      refine seq_gen fun t2 ht2 => ?_
      refine cont_gen e9 (nx_gen ?_)
      subst ht2
      obtain ⟨c15, g10, e10, a10, b10, rd10⟩ := next_ok rd9 (many := 15) (by decide) (by decide)
      have lS : (S.map encSn).length < 100000 := by rw [List.length_map]; omega
      have ok : SnOk hs (b, k, x) := ⟨⟨b0, by simp only; omega⟩, ⟨k0, k1⟩, fun h hh => by
        have hh' : hs[k.toNat]? = some h := hh
        rw [hy] at hh'
        cases hh'
        exact ⟨x0, x1⟩⟩
      refine seq_gen fun t2 ht2 => ?_
      by_cases c : c15 = 0
      · obtain ⟨o, g11, e11, mo, rd11⟩ := pick07 rd10 (l := [PyData.tuple [.int (-1), .int k, .int x], .tuple [.int b, .int (hs.length : Nat), .int x], .tuple [.int b, .int k, .int y.2.2], .tuple [.int b, .int (-1), .int 0], .tuple [.int 1000001, .int k, .int x], .tuple [.int b, .int k, .int (-1)]]) (by simp) (by simp)
        obtain ⟨s, rfl, sb⟩ := odd07 k0 k1 hy mo
        have st2 := st.bad sb
        rw [hS] at st2
        refine cont_gen (o' := .nx [some (.tok 0), some (.tok 1), xi, some (.dat (encW w)), some (.dat (encHs hs)), some (.dat (.int (j : Nat))), some (.dat (encWn n)), some (.own (S.map encSn)), some (.dat (if isNon dd then .int (j : Nat) else dd)), some (.dat (.int s.1)), some (.dat (.int s.2.1)), some (.dat (.int s.2.2)), some (.dat (.list [PyData.tuple [.int (-1), .int k, .int x], .tuple [.int b, .int (hs.length : Nat), .int x], .tuple [.int b, .int k, .int y.2.2], .tuple [.int b, .int (-1), .int 0], .tuple [.int 1000001, .int k, .int x], .tuple [.int b, .int k, .int (-1)]])), x13, x14, x15, x16, x17, x18, x19] g11) (by
          have hdd : dd = .none ∨ ∃ m : Nat, dd = .int (m : Nat) := by
            rcases st with ⟨h, _⟩ | ⟨m, _, h, _⟩
            · exact .inl h
            · exact .inr ⟨m, h⟩
          rcases hdd with rfl | ⟨m, rfl⟩
          · simp [e10, c, encHs, ey]
            simp [encH, e11, encSn]
          · simp [e10, c, encHs, ey]
            simp [encH, e11, encSn]) (nx_gen ?_)
        subst ht2
        have ea : (sApp 7 (sTup (sCons (sV 9) (sCons (sV 10) (sCons (sV 11) sNil)))) : MS DG) [some (.tok 0), some (.tok 1), xi, some (.dat (encW w)), some (.dat (encHs hs)), some (.dat (.int (j : Nat))), some (.dat (encWn n)), some (.own (S.map encSn)), some (.dat (if isNon dd then .int (j : Nat) else dd)), some (.dat (.int s.1)), some (.dat (.int s.2.1)), some (.dat (.int s.2.2)), some (.dat (.list [PyData.tuple [.int (-1), .int k, .int x], .tuple [.int b, .int (hs.length : Nat), .int x], .tuple [.int b, .int k, .int y.2.2], .tuple [.int b, .int (-1), .int 0], .tuple [.int 1000001, .int k, .int x], .tuple [.int b, .int k, .int (-1)]])), x13, x14, x15, x16, x17, x18, x19] g11 =
            .nx [some (.tok 0), some (.tok 1), xi, some (.dat (encW w)), some (.dat (encHs hs)), some (.dat (.int (j : Nat))), some (.dat (encWn n)), some (.own ((S ++ [s]).map encSn)), some (.dat (if isNon dd then .int (j : Nat) else dd)), some (.dat (.int s.1)), some (.dat (.int s.2.1)), some (.dat (.int s.2.2)), some (.dat (.list [PyData.tuple [.int (-1), .int k, .int x], .tuple [.int b, .int (hs.length : Nat), .int x], .tuple [.int b, .int k, .int y.2.2], .tuple [.int b, .int (-1), .int 0], .tuple [.int 1000001, .int k, .int x], .tuple [.int b, .int k, .int (-1)]])), x13, x14, x15, x16, x17, x18, x19] g11 := by
          rw [List.length_map] at lS
          simp [lS, encSn]
        rw [ea]
        exact ⟨rd11, S ++ [s], _, _, _, _, _, _, by simp [hS], st2, rfl⟩
      · refine cont_gen (o' := .nx [some (.tok 0), some (.tok 1), xi, some (.dat (encW w)), some (.dat (encHs hs)), some (.dat (.int (j : Nat))), some (.dat (encWn n)), some (.own (S.map encSn)), some (.dat dd), some (.dat (.int b)), some (.dat (.int k)), some (.dat (.int x)), z12, x13, x14, x15, x16, x17, x18, x19] g10) (by
          simp [e10, c]) (nx_gen ?_)
        subst ht2
        have ea : (sApp 7 (sTup (sCons (sV 9) (sCons (sV 10) (sCons (sV 11) sNil)))) : MS DG) [some (.tok 0), some (.tok 1), xi, some (.dat (encW w)), some (.dat (encHs hs)), some (.dat (.int (j : Nat))), some (.dat (encWn n)), some (.own (S.map encSn)), some (.dat dd), some (.dat (.int b)), some (.dat (.int k)), some (.dat (.int x)), z12, x13, x14, x15, x16, x17, x18, x19] g10 =
            .nx [some (.tok 0), some (.tok 1), xi, some (.dat (encW w)), some (.dat (encHs hs)), some (.dat (.int (j : Nat))), some (.dat (encWn n)), some (.own ((S ++ [(b, k, x)]).map encSn)), some (.dat dd), some (.dat (.int b)), some (.dat (.int k)), some (.dat (.int x)), z12, x13, x14, x15, x16, x17, x18, x19] g10 := by
          rw [List.length_map] at lS
          simp [lS, encSn]
        rw [ea]
        exact ⟨rd10, S ++ [(b, k, x)], _, _, _, _, _, _, by simp [hS], st.good ok, rfl⟩
    · rintro r g ⟨rdB, S, dd, z5, z9, z10, z11, z12, hS, st, rfl⟩
      rw [rng_len] at hS
      refine nx_gen ?_
      subst ht1
      -- all single ones
      refine seq_gen fun t1 ht1 => ?_
      refine cont_gen (o' := .nx [some (.tok 0), some (.tok 1), xi, some (.dat (encW w)), some (.dat (encHs hs)), z5, some (.dat (encWn n)), some (.own (S.map encSn)), some (.dat dd), z9, z10, z11, z12, some (.own ((sing w 0).map encWn)), x14, x15, x16, x17, x18, x19] g) (by
        simp [sing, encWn]) (nx_gen ?_)
      subst ht1
      refine seq_gen fun t1 ht1 => ?_
      refine for_in (items := rngL 1 (w.length - 1)) (g1 := g) (fun i r g' => g' = g ∧ ∃ y14 y15 : Option Vl, r = [some (.tok 0), some (.tok 1), xi, some (.dat (encW w)), some (.dat (encHs hs)), z5, some (.dat (encWn n)), some (.own (S.map encSn)), some (.dat dd), z9, z10, z11, z12, some (.own ((sing w i).map encWn)), y14, y15, x16, x17, x18, x19]) ?_ ⟨rfl, x14, x15, rfl⟩ ?_ ?_
      · simp [-bLen, lW, q1, q2]
      · rintro i d r g' hd ⟨rfl, y14, y15, rfl⟩
        obtain ⟨hi, rfl⟩ := rng_at hd
        rw [show (1 : Int) + (i : Nat) = ((i + 1 : Nat) : Int) by omega]
        have hlt : i + 1 < w.length := by omega
        have ha : w[i + 1]? = some w[i + 1] := List.getElem?_eq_getElem hlt
        obtain ⟨p1, p2, p3, p4, p5, p6⟩ := gw.arb ha (by omega)
        have e1 : atI (w.map encA) ((i + 1 : Nat) : Int) = some (encA w[i + 1]) := encW_get (by omega) (by simpa using ha)
        obtain ⟨T, hT⟩ : ∃ T : Nat, w[i + 1].2.1 = (T : Nat) := ⟨w[i + 1].2.1.toNat, by omega⟩
        have sl := sing_len gw i (by omega)
        have l1 : (sing w i).length + T ≤ 100000 := by omega
        have lT : T ≤ 1000000 := by omega
        have q1 : (T : Int) ≤ 100000000 := by omega
        have q2 : -100000000 ≤ (T : Int) := by omega
        have es : (sing w (i + 1)).map encWn = (sing w i).map encWn ++ (List.range T).map fun t => PyData.tuple [.tuple [.int ((i + 1 : Nat) : Int), .int (0 + ((t : Nat) : Int))]] := by
          rw [sing_succ, getD_of ha, hT, List.map_append, Int.toNat_natCast, List.map_map]
          congr 1
          refine List.map_congr_left fun t _ => ?_
          simp [encWn, encP]
        refine ⟨_, rfl, ?_⟩
        simp only [sAsg, sOp, sLc]
        generalize ((i + 1 : Nat) : Int) = N at *
        have lc : ∀ (r : CW.Env) (tg : MG) (tt : MT DG) (e : ME DG), (∀ t : Nat, ∃ r1, tg (.dat (.int (0 + ((t : Nat) : Int)))) r = some r1 ∧ tt r1 g' = .ok true g' ∧ ∃ v, e r1 g' = .ok v g' ∧ v.frz = some (PyData.tuple [.tuple [.int N, .int (0 + ((t : Nat) : Int))]])) → lcGo r tg tt e (rngL 0 T) [] g' = .ok ((List.range T).map fun t => PyData.tuple [.tuple [.int N, .int (0 + ((t : Nat) : Int))]]) g' := fun r tg tt e hh =>
          lc_mapE (fun t : Nat => PyData.int (0 + ((t : Nat) : Int))) (fun t => PyData.tuple [.tuple [.int N, .int (0 + ((t : Nat) : Int))]]) (List.range T) r tg tt e fun t _ => hh t
        simp [encW, e1]
        simp [encA, hT, q1, q2, rng_len, lT]
        rw [lc _ _ _ _ fun t => ⟨_, rfl, rfl, .dat (.tuple [.tuple [.int N, .int (0 + ((t : Nat) : Int))]]), by simp, rfl⟩]
        simp [l1, Out.after, es]
      · rintro r g' ⟨rfl, y14, y15, rfl⟩
        rw [rng_len, show sing w (w.length - 1) = sings w from rfl]
        refine nx_gen ?_
        subst ht1
        have sl := sings_len gw
        refine seq_gen fun t1 ht1 => ?_
        simp [nxThen]
        subst ht1
        have B1 : -BIGW ≤ 1 := by rw [BIGW_eq]; decide
        have B2 : (1 : Int) < BIGW := by rw [BIGW_eq]; decide
        have B3 : -BIGW ≤ 0 := by rw [BIGW_eq]; decide
        have B4 : (0 : Int) < BIGW := by rw [BIGW_eq]; decide
        have hk9 : k9.toNat ≤ 9 := by omega
        rcases st with ⟨rfl, okS⟩ | ⟨m, s0, rfl, hm1, hm2, hm3⟩
        · refine seq_gen fun t1 ht1 => ?_
          show nxThen _ t1 (sFor _ _ _ [some (.tok 0), some (.tok 1), xi, some (.dat (encW w)), some (.dat (encHs hs)), z5, some (.dat (encWn n)), some (.own (S.map encSn)), some (.dat .none), z9, z10, z11, z12, some (.dat (.list ((sings w).map encWn))), y14, y15, some (.own []), x17, x18, x19] g')
          refine for_in (items := (sings w).map encWn) (g1 := g') (fun i r g2 => g2 = g' ∧ ∃ (z7 : Vl) (y17 y18 y19 : Option Vl), (z7 = .own (S.map encSn) ∨ z7 = .dat (.list (S.map encSn))) ∧ r = [some (.tok 0), some (.tok 1), xi, some (.dat (encW w)), some (.dat (encHs hs)), z5, some (.dat (encWn n)), some z7, some (.dat .none), z9, z10, z11, z12, some (.dat (.list ((sings w).map encWn))), y14, y15, some (.own ((((sings w).take i).filter fun n => fitB w hs n S).map encWn)), y17, y18, y19]) ?_ ⟨rfl, _, x17, x18, x19, .inl rfl, rfl⟩ ?_ ?_
          · simp
          · rintro i d r g2 hd ⟨rfl, z7, y17, y18, y19, hz, rfl⟩
            rw [List.getElem?_map] at hd
            cases hp : (sings w)[i]? with
            | none => rw [hp] at hd; cases hd
            | some n' =>
              rw [hp] at hd
              cases hd
              obtain ⟨gn', hn'⟩ := sings_good gw (List.mem_of_getElem? hp)
              have lS : S.length ≤ 1000000 := by omega
              have lc1 : ∀ (r : CW.Env) (tg : MG) (tt : MT DG) (e : ME DG), (∀ s, SnOk hs s → ∃ r1, tg (.dat (encSn s)) r = some r1 ∧ tt r1 g2 = .ok true g2 ∧ e r1 g2 = .ok (.dat (.int (mk7 w hs n' s))) g2) → lcGo r tg tt e (S.map encSn) [] g2 = .ok (encI (S.map (mk7 w hs n'))) g2 := fun r tg tt e hh => by
                rw [lc_mapE encSn (fun s => .int (mk7 w hs n' s)) S r tg tt e fun s hs' => by
                  obtain ⟨r1, h1, h2, h3⟩ := hh s (okS s hs')
                  exact ⟨r1, h1, h2, _, h3, rfl⟩]
                simp [encI, Function.comp_def]
              have lc2 : ∀ (r : CW.Env) (tg : MG) (tt : MT DG) (e : ME DG), (∀ s : Sn, ∃ r1, tg (.dat (encSn s)) r = some r1 ∧ tt r1 g2 = .ok true g2 ∧ e r1 g2 = .ok (.dat (.int s.2.2)) g2) → lcGo r tg tt e (S.map encSn) [] g2 = .ok (encI (S.map fun s => s.2.2)) g2 := fun r tg tt e hh => by
                rw [lc_mapE encSn (fun s => .int s.2.2) S r tg tt e fun s hs' => by
                  obtain ⟨r1, h1, h2, h3⟩ := hh s
                  exact ⟨r1, h1, h2, _, h3, rfl⟩]
                simp [encI, Function.comp_def]
              have row : ∀ s, SnOk hs s → ∀ {y18 : Option Vl}, (sOp oIx (sCallP f__law_marks (sCons (sV 3) (sCons (sV 4) (sCons (sCallP f__law_steps (sCons (sV 3) (sCons (sV 17) (sCons (sOp oIx (sV 19) (sC (.int 0))) sNil)))) sNil)))) (sOp oIx (sV 19) (sC (.int 1))) : ME DG)
                  [some (.tok 0), some (.tok 1), xi, some (.dat (encW w)), some (.dat (encHs hs)), z5, some (.dat (encWn n)), some (.dat (.list (S.map encSn))), some (.dat .none), z9, z10, z11, z12, some (.dat (.list ((sings w).map encWn))), y14, y15, some (.own ((((sings w).take i).filter fun n => fitB w hs n S).map encWn)), some (.dat (encWn n')), y18, some (.dat (encSn s))] g2 = .ok (.dat (.int (mk7 w hs n' s))) g2 := fun s hs' => by
                obtain ⟨⟨b0, b1⟩, ⟨k0, k1⟩, _⟩ := hs'
                have els := law_steps_eq gw gn' (by omega) b0 b1
                have elm := law_marks7 gw gh (WS_len w n' s.1) (WS_big gw gn' b0 b1)
                have em : atI (encI (hs.map (mk w (WS w n' s.1)))) s.2.1 = some (.int (mk7 w hs n' s)) := mkN_get k0 k1
                intro y18
                unfold encWn
                generalize mk7 w hs n' s = X at *
                generalize encI (hs.map (mk w (WS w n' s.1))) = EL at *
                simp [encSn, els, elm, em]
              refine ⟨_, rfl, ?_⟩
              refine seq_gen fun t2 ht2 => ?_
              refine cont_gen (o' := .nx [some (.tok 0), some (.tok 1), xi, some (.dat (encW w)), some (.dat (encHs hs)), z5, some (.dat (encWn n)), some (.dat (.list (S.map encSn))), some (.dat .none), z9, z10, z11, z12, some (.dat (.list ((sings w).map encWn))), y14, y15, some (.own ((((sings w).take i).filter fun n => fitB w hs n S).map encWn)), some (.dat (encWn n')), some (.own (encI (S.map (mk7 w hs n')))), y19] g2) (by
                simp only [sFrz, sAsg, sLc, CW.iSeq]
                rcases hz with rfl | rfl
                · simp [lS]
                  rw [lc1 _ _ _ _ fun s hs' => ⟨_, rfl, rfl, ?_⟩]
                  · simp
                  · exact row s hs'
                · simp [lS]
                  rw [lc1 _ _ _ _ fun s hs' => ⟨_, rfl, rfl, ?_⟩]
                  · simp
                  · exact row s hs') (nx_gen ?_)
              subst ht2
              have sl1 : (((sings w).take i).filter fun n => fitB w hs n S).length ≤ 1000 := by
                refine Nat.le_trans (List.length_filter_le _ _) ?_
                rw [List.length_take]
                omega
              have sl2 : (((sings w).take i).filter fun n => fitB w hs n S).length + 1 ≤ 100000 := by omega
              have sl3 : (((sings w).take i).filter fun n => fitB w hs n S).length ≤ 100000 := by omega
              have fm := fit_map w hs n' S
              have dq : deqs (encI (S.map (mk7 w hs n'))) (encI (S.map fun s => s.2.2)) = fitB w hs n' S := by
                rw [fm]
                exact deqs_ints _ _
              have sAq : shps 11 (encI (S.map (mk7 w hs n'))) = true := shps_int 11 _
              have sBq : shps 11 (encI (S.map fun s => s.2.2)) = true := shps_int 11 _
              have ea : (sFrz [7] (sAsg (sOp oAdd (sV 16) (sOp oMul (sLst (sCons (sV 17) sNil)) (sB bInt (sCons (sOp oEq (sV 18) (sLc (iSeq (sV 7)) (gN 19) sYes (sOp oIx (sV 19) (sC (.int 2))) [19])) sNil)))) (gN 16)) : MS DG)
                  [some (.tok 0), some (.tok 1), xi, some (.dat (encW w)), some (.dat (encHs hs)), z5, some (.dat (encWn n)), some (.dat (.list (S.map encSn))), some (.dat .none), z9, z10, z11, z12, some (.dat (.list ((sings w).map encWn))), y14, y15, some (.own ((((sings w).take i).filter fun n => fitB w hs n S).map encWn)), some (.dat (encWn n')), some (.own (encI (S.map (mk7 w hs n')))), y19] g2 =
                  .nx [some (.tok 0), some (.tok 1), xi, some (.dat (encW w)), some (.dat (encHs hs)), z5, some (.dat (encWn n)), some (.dat (.list (S.map encSn))), some (.dat .none), z9, z10, z11, z12, some (.dat (.list ((sings w).map encWn))), y14, y15, some (.own ((((sings w).take (i + 1)).filter fun n => fitB w hs n S).map encWn)), some (.dat (encWn n')), some (.own (encI (S.map (mk7 w hs n')))), y19] g2 := by
                rw [take_snoc hp, List.filter_append, List.map_append]
                clear row lc1
                generalize encI (S.map (mk7 w hs n')) = EA at *
                simp only [sFrz, sAsg, sOp, sB, sCons, sNil, sLst, sLc, CW.iSeq]
                simp [lS]
                rw [lc2 _ _ _ _ fun s => ⟨_, rfl, rfl, by simp [encSn]⟩]
                generalize (((sings w).take i).filter fun n => fitB w hs n S) = FL at *
                generalize encI (S.map fun s => s.2.2) = EB at *
                cases hf : fitB w hs n' S with
                | true =>
                  rw [hf] at dq
                  simp [dq, sAq, sBq, B1, B2, repL, sl2, hf]
                | false =>
                  rw [hf] at dq
                  simp [dq, sAq, sBq, B3, B4, repL, sl3, hf]
              rw [ea]
              exact ⟨rfl, _, _, _, _, .inr rfl, rfl⟩
          · rintro r g2 ⟨rfl, z7, y17, y18, y19, hz, rfl⟩
            rw [List.length_map, List.take_length]
            refine nx_gen ?_
            subst ht1
            have es := suspects_eq gw gh okS (need_seen_eq7 okS)
            have lk := like07_3 ((sings w).filter fun n => fitB w hs n S) (Nat.le_trans (List.length_filter_le _ _) (by omega)) (fun n hn => by
              have := (sings_good gw (List.mem_filter.mp hn).1).2
              omega)
            generalize (((sings w).filter fun n => fitB w hs n S).map encWn) = FL at *
            refine seq_gen fun t1 ht1 => ?_
            refine cont_gen (o' := .nx [some (.tok 0), some (.tok 1), xi, some (.dat (encW w)), some (.dat (encHs hs)), z5, some (.dat (encWn n)), some z7, some (.dat .none), z9, z10, z11, z12, some (.dat (.list ((sings w).map encWn))), y14, y15, some (.dat (.list FL)), y17, y18, y19] g2) (by
              simp) (nx_gen ?_)
            subst ht1
            rcases hz with rfl | rfl
            · simp [es, lk, Out.after]
              exact rdB
            · simp [es, lk, Out.after]
              exact rdB
        · have es := suspects_bad7 gw gh (need_seen_bad7 hm1 hm2 hm3)
          have lk := like07_r _ _ k0 k1 (m : Nat)
          refine seq_gen fun t1 ht1 => ?_
          refine cont_gen (o' := .nx [some (.tok 0), some (.tok 1), xi, some (.dat (encW w)), some (.dat (encHs hs)), z5, some (.dat (encWn n)), some (.own (S.map encSn)), some (.dat (.int (m : Nat))), z9, z10, z11, z12, some (.dat (.list ((sings w).map encWn))), y14, y15, some (.own []), x17, x18, x19] g') (by
            simp [sFor, forGo]) (nx_gen ?_)
          subst ht1
          refine seq_gen fun t1 ht1 => ?_
          refine cont_gen (o' := .nx [some (.tok 0), some (.tok 1), xi, some (.dat (encW w)), some (.dat (encHs hs)), z5, some (.dat (encWn n)), some (.own (S.map encSn)), some (.dat (.int (m : Nat))), z9, z10, z11, z12, some (.dat (.list ((sings w).map encWn))), y14, y15, some (.dat (.tuple [.str "refused", .str "BadSeen", .int (m : Nat)])), x17, x18, x19] g') (by
            simp) (nx_gen ?_)
          subst ht1
          simp [es, lk, Out.after]
          exact rdB
  · rintro r g ⟨rd, x2, x3, x4, x5, x6, x7, x8, x9, x10, x11, x12, x13, x14, x15, x16, x17, x18, x19, rfl⟩
    simp [nxThen]
    subst ht0
    simp [RPost]

end
open PySem PySem.Spec PyProof.Rows L2 CW
def top (i : Nat) : Stmt := PySem.Challenge.pw_clockworks_k07_suspects_told.main.body.getD i (.Pass ⟨0, 0, 0, 0⟩)
abbrev s__law_dice : Stmt := top 46
abbrev n__law_dice : List Str := ["_law_script", "_law_mixed", "_law_cell"]
abbrev s__law_next : Stmt := top 47
abbrev n__law_next : List Str := ["_law_dice_here", "_law_many", "_law_found", "_law_cell"]
abbrev s__law_works : Stmt := top 51
abbrev n__law_works : List Str := ["_law_d", "_law_upto", "_law_teeth", "_law_found", "_law_arbor"]
abbrev s__law_worn : Stmt := top 52
abbrev n__law_worn : List Str := ["_law_d", "_law_works_here", "_law_upto", "_law_found", "_law_k", "_law_arbor"]
abbrev s__law_marks : Stmt := top 54
abbrev n__law_marks : List Str := ["_law_works_here", "_law_hands", "_law_made", "_law_n", "_law_arbor", "_law_marks_here"]
abbrev s__law_steps : Stmt := top 53
abbrev n__law_steps : List Str := ["_law_works_here", "_law_worn_here", "_law_count", "_law_found", "_law_arbor", "_law_source", "_law_drives", "_law_driven", "_law_many", "_law_teeth", "_law_one", "_law_tooth", "_law_rest"]
abbrev s__law_pick : Stmt := top 49
abbrev n__law_pick : List Str := ["_law_d", "_law_some"]
abbrev s__law_like_0 : Stmt := top 48
abbrev n__law_like_0 : List Str := ["_law_found", "_law_due", "_law_k"]
abbrev s__law_like_1 : Stmt := top 48
abbrev n__law_like_1 : List Str := ["_law_found", "_law_due", "_law_k"]
abbrev s__law_like_2 : Stmt := top 48
abbrev n__law_like_2 : List Str := ["_law_found", "_law_due", "_law_k"]
abbrev s__law_like_3 : Stmt := top 48
abbrev n__law_like_3 : List Str := ["_law_found", "_law_due", "_law_k"]
abbrev s__law_told : Stmt := top 50
abbrev n__law_told : List Str := ["_law_work", "e", "_law_some", "_law_terms", "_law_term"]
abbrev s_is_arbor : Stmt := top 24
abbrev n_is_arbor : List Str := ["number", "arbor", "source", "drives", "driven"]
abbrev s_need_works : Stmt := top 25
abbrev n_need_works : List Str := ["works", "number", "arbor"]
abbrev s_is_name : Stmt := top 33
abbrev n_is_name : List Str := ["name", "sign"]
abbrev s_need_hands : Stmt := top 34
abbrev n_need_hands : List Str := ["works", "hands", "at", "name", "arbor", "marks", "hand"]
abbrev s_BadSeen___init__ : Stmt := inClass (top 5) 0
abbrev n_BadSeen___init__ : List Str := ["self", "at"]
abbrev s_need_beats : Stmt := top 26
abbrev n_need_beats : List Str := ["beats", "most"]
abbrev s_need_hand : Stmt := top 35
abbrev n_need_hand : List Str := ["hands", "number"]
abbrev s_need_seen : Stmt := top 41
abbrev n_need_seen : List Str := ["hands", "seen", "at", "beats", "number", "mark", "e"]
abbrev s_all_single : Stmt := top 42
abbrev n_all_single : List Str := ["works", "found", "arbor", "tooth"]
abbrev s_mark_of : Stmt := top 36
abbrev n_mark_of : List Str := ["works", "hand", "made", "name", "arbor", "marks"]
abbrev s_marks_of : Stmt := top 37
abbrev n_marks_of : List Str := ["works", "hands", "made", "hand"]
abbrev s_passed : Stmt := top 27
abbrev n_passed : List Str := ["works", "arbor", "made", "source", "drives", "driven"]
abbrev s_missed : Stmt := top 39
abbrev n_missed : List Str := ["teeth", "drives", "begin", "end", "tooth"]
abbrev s_worn_steps_of : Stmt := top 40
abbrev n_worn_steps_of : List Str := ["works", "worn", "beats", "found", "arbor", "source", "drives", "driven", "many", "teeth", "one", "tooth"]
abbrev s_fits : Stmt := top 43
abbrev n_fits : List Str := ["works", "hands", "worn", "seen", "beats", "number", "mark"]
abbrev s_suspects : Stmt := top 44
abbrev n_suspects : List Str := ["works", "hands", "seen", "worn"]
abbrev s_law : Stmt := top 55
abbrev n_law : List Str := ["_law_script", "_law_d", "_law_turn", "_law_works_here", "_law_hands", "_law_k", "_law_worn_here", "_law_seen", "_law_bad", "_law_count", "_law_number", "_law_mark", "_law_odd", "_law_alone", "_law_arbor", "_law_tooth", "_law_due", "_law_one", "_law_marks_here", "_law_row"]
theorem told_BadSeen (k : Int) : b__law_told_BadSeen k (exEnv 5) () = .rt (.dat (.tuple [.str "refused", .str "BadSeen", .int k])) () := by
  simp [b__law_told_BadSeen, exEnv, hasIn, atN, fCnt, fIdx, List.findIdx?_cons, CW.atI, cutL, cutAt, show sok ("BadWorks" : Str) = true from by decide +kernel, show sok ("BadHands" : Str) = true from by decide +kernel, show sok ("BadWorn" : Str) = true from by decide +kernel, show sok ("BadSeen" : Str) = true from by decide +kernel, show sok ("BadDeed" : Str) = true from by decide +kernel, show (("BadWorks" : Str) == "BadSeen") = false from by decide +kernel, show (("BadHands" : Str) == "BadSeen") = false from by decide +kernel, show (("BadWorn" : Str) == "BadSeen") = false from by decide +kernel, show (("BadDeed" : Str) == "BadSeen") = false from by decide +kernel]
section
variable {P : Program} {w : World} {K : FR} {mg : Str → Option Value} {base : Heap}
theorem sc__law_dice : FnScope n__law_dice (["_law_script"] : List Str) (defScope s__law_dice) := ⟨rfl, rfl, rfl, by decide +kernel, rfl, by decide +kernel, by decide +kernel⟩
theorem ok__law_dice {f : Addr} {fd : FuncData} (F : FunD K "_law_dice" "_law_dice" (defArgs s__law_dice) (defBody s__law_dice) (defScope s__law_dice) [] [] f fd) (z_int : mg "int" = none) (z_len : mg "len" = none) : FnOk P w K mg base (L2.CX P w) 1 f fd (["_law_script"] : List Str) (spT (WD K) mg 0 1 f__law_dice) := by
  have nd := sc__law_dice.nd
  refine FunD.ok F sc__law_dice (fun vs H Q E h => h.1) (fun cdv A outer s H vs Q E hr h => ?_)
  have ss : SoundS (cD K mg (fun C d _ H => E C d H)) _ b__law_dice := (ss_seq (ss_asg (so_c fun _ => .int _) (sg_name 1))
    (ss_seq (ss_for (si_dScr 0) (sg_name 2) (ss_asg (so_op sr_mod (so_op sr_add (so_op sr_add (so_op sr_mul (so_var 1) (so_c fun _ => .int _)) (so_op sr_mul (so_op sr_mod (so_var 2) (so_c fun _ => .int _)) (so_c fun _ => .int _))) (so_c fun _ => .int _)) (so_c fun _ => .int _)) (sg_name 1)))
    (ss_retDice (so_c fun _ => .int _) (so_op sr_mul (so_var 1) (so_b sb_int (so_cons (so_op sr_gt (so_dLen (so_var 0)) (so_c fun _ => .int _)) so_nil))) (so_c fun _ => .int _))))
  refine ⟨_, ?_, bodyT_ok (W := WD K) (mg := mg) (N := n__law_dice) (n0 := 0) (k := 0) (fun _ _ _ _ z => z) ss h⟩
  exact (pss_cons (ps_set (i := 1) nd rfl (by first | exact Or.inl rfl | exact Or.inr rfl) pe_int)
    (pss_cons (ps_for (passes_of rfl) rfl (pi_any (pv 0)) (pg_name (i := 2) nd rfl (by first | exact Or.inl rfl | exact Or.inr rfl)) (pss_one (ps_set (i := 1) nd rfl (by first | exact Or.inl rfl | exact Or.inr rfl) (pe_op op_mod (pe_op op_addA (pe_op op_addA (pe_op op_mulA (pv 1) pe_int) (pe_op op_mulA (pe_op op_mod (pv 2) pe_int) pe_int)) pe_int) pe_int))))
    (pss_one (ps_ret (pe_lst (pa_cons (pv 0) (pa_cons pe_int (pa_cons (pe_op op_mulA (pv 1) (pe_callTy call_int1 (by rfl) z_int (by decide +kernel) (pa_cons (pe_cmpR op_gt (pe_callB call_len (by rfl) z_len (by decide +kernel) (pa_cons (pv 0) pa_nil)) pe_int (nomark _)) pa_nil))) (pa_cons pe_int pa_nil)))))))))
theorem sc__law_next : FnScope n__law_next (["_law_dice_here", "_law_many"] : List Str) (defScope s__law_next) := ⟨rfl, rfl, rfl, by decide +kernel, rfl, by decide +kernel, by decide +kernel⟩
theorem ok__law_next {f : Addr} {fd : FuncData} (F : FunD K "_law_next" "_law_next" (defArgs s__law_next) (defBody s__law_next) (defScope s__law_next) [] [] f fd) (z_len : mg "len" = none) : FnOk P w K mg base (L2.CX P w) 1 f fd (["_law_dice_here", "_law_many"] : List Str) (spT (WD K) mg 1 2 f__law_next) := by
  have nd := sc__law_next.nd
  refine FunD.ok F sc__law_next (fun vs H Q E h => h.1) (fun cdv A outer s H vs Q E hr h => ?_)
  have ss : SoundS (cD K mg (fun C d _ H => E C d H)) _ b__law_next := (ss_seq (ss_if (so_tst (so_op sr_gt (so_dIx 0 3) (so_c fun _ => .int _))) (ss_seq (ss_asg (so_op sr_mod (so_dIx 0 3) (so_var 1)) (sg_name 2))
    (ss_seq (ss_dSet (i := 0) (k := 3) (so_op sr_div (so_dIx 0 3) (so_var 1)))
    (ss_retV 2))) ss_next)
    (ss_seq (ss_dSet (i := 0) (k := 1) (so_op sr_add (so_dIx 0 1) (so_c fun _ => .int _)))
    (ss_seq (ss_if (so_tst (so_op sr_le (so_dIx 0 1) (so_dLen (so_dIx 0 0)))) (ss_seq (ss_asg (so_dAt (so_dIx 0 0) (so_op sr_sub (so_dIx 0 1) (so_c fun _ => .int _))) (sg_name 3))
    (ss_seq (ss_dSet (i := 0) (k := 3) (so_if (so_tst (so_op sr_ge (so_var 3) (so_op sr_pow (so_c fun _ => .int _) (so_c fun _ => .int _)))) (so_op sr_div (so_var 3) (so_var 1)) (so_c fun _ => .int _)))
    (ss_ret (so_op sr_mod (so_var 3) (so_var 1))))) ss_next)
    (ss_seq (ss_dSet (i := 0) (k := 2) (so_op sr_mod (so_op sr_mul (so_dIx 0 2) (so_c fun _ => .int _)) (so_c fun _ => .int _)))
    (ss_ret (so_op sr_mod (so_op sr_div (so_dIx 0 2) (so_c fun _ => .int _)) (so_var 1)))))))
  refine ⟨_, ?_, bodyT_ok (W := WD K) (mg := mg) (N := n__law_next) (n0 := 1) (k := 1) (fun _ _ _ _ z => z) ss h⟩
  exact (pss_cons (ps_if (pt_cmpR op_gt (pe_ix ix_seq (pv 0) pe_int (fun _ _ => rfl)) pe_int (nomark _)) (pss_cons (ps_set (i := 2) nd rfl (by first | exact Or.inl rfl | exact Or.inr rfl) (pe_op op_mod (pe_ix ix_seq (pv 0) pe_int (fun _ _ => rfl)) (pv 1)))
    (pss_cons (ps_asg (pe_op op_fdivW (pe_ix ix_seq (pv 0) pe_int (fun _ _ => rfl)) (pv 1)) (pg_sub (pv 0) pe_int set_list))
    (pss_one (ps_ret (pv 2))))) pss_nil)
    (pss_cons (ps_asg (pe_op op_addA (pe_ix ix_seq (pv 0) pe_int (fun _ _ => rfl)) pe_int) (pg_sub (pv 0) pe_int set_list))
    (pss_cons (ps_if (pt_cmpR (op_leA hr.units0) (pe_ix ix_seq (pv 0) pe_int (fun _ _ => rfl)) (pe_callB call_len (by rfl) z_len (by decide +kernel) (pa_cons (pe_ix ix_seq (pv 0) pe_int (fun _ _ => rfl)) pa_nil)) (nomark _)) (pss_cons (ps_set (i := 3) nd rfl (by first | exact Or.inl rfl | exact Or.inr rfl) (pe_ix ix_seq (pe_ix ix_seq (pv 0) pe_int (fun _ _ => rfl)) (pe_op op_sub (pe_ix ix_seq (pv 0) pe_int (fun _ _ => rfl)) pe_int) (fun _ _ => rfl)))
    (pss_cons (ps_asg (pe_ifExp (pt_cmpR op_ge (pv 3) (pe_op op_pow pe_int pe_int) (nomark _)) (pe_op op_fdivW (pv 3) (pv 1)) pe_int) (pg_sub (pv 0) pe_int set_list))
    (pss_one (ps_ret (pe_op op_mod (pv 3) (pv 1)))))) pss_nil)
    (pss_cons (ps_asg (pe_op op_mod (pe_op op_mulA (pe_ix ix_seq (pv 0) pe_int (fun _ _ => rfl)) pe_int) pe_int) (pg_sub (pv 0) pe_int set_list))
    (pss_one (ps_ret (pe_op op_mod (pe_op op_fdivW (pe_ix ix_seq (pv 0) pe_int (fun _ _ => rfl)) pe_int) (pv 1))))))))
theorem sc__law_works : FnScope n__law_works (["_law_d", "_law_upto", "_law_teeth"] : List Str) (defScope s__law_works) := ⟨rfl, rfl, rfl, by decide +kernel, rfl, by decide +kernel, by decide +kernel⟩
theorem ok__law_works {f : Addr} {fd : FuncData} (F : FunD K "_law_works" "_law_works" (defArgs s__law_works) (defBody s__law_works) (defScope s__law_works) [] [] f fd) (z_range : mg "range" = none) (z_tuple : mg "tuple" = none) (h__law_next : Has P w K mg base 1 "_law_next" (["_law_dice_here", "_law_many"] : List Str) [] (spT (WD K) mg 1 2 f__law_next)) : FnOk P w K mg base (L2.CX P w) 2 f fd (["_law_d", "_law_upto", "_law_teeth"] : List Str) (spT (WD K) mg 1 3 f__law_works) := by
  have nd := sc__law_works.nd
  refine FunD.ok F sc__law_works (fun vs H Q E h => h.1) (fun cdv A outer s H vs Q E hr h => ?_)
  have ss : SoundS (cD K mg (fun C d _ H => E C d H)) _ b__law_works := (ss_seq (ss_asg (so_lst (so_cons (so_tup (so_cons (so_c fun _ => .int _) (so_cons (so_c fun _ => .int _) (so_cons (so_op sr_add (so_c fun _ => .int _) (so_callT rfl (fun ds g h => runT_no ds g h) (so_cons (so_var 0) (so_cons (so_op sr_ix (so_lst (so_cons (so_c fun _ => .int _) (so_cons (so_c fun _ => .int _) so_nil))) (so_callT rfl (fun ds g h => runT_no ds g h) (so_cons (so_var 0) (so_cons (so_c fun _ => .int _) so_nil)))) so_nil)))) so_nil)))) so_nil)) (sg_name 3))
    (ss_seq (ss_for (si_rng2 (so_c fun _ => .int _) (so_op sr_add (so_c fun _ => .int _) (so_callT rfl (fun ds g h => runT_no ds g h) (so_cons (so_var 0) (so_cons (so_var 1) so_nil))))) (sg_name 4) (ss_app (so_tup (so_cons (so_callT rfl (fun ds g h => runT_no ds g h) (so_cons (so_var 0) (so_cons (so_var 4) so_nil))) (so_cons (so_op sr_add (so_c fun _ => .int _) (so_callT rfl (fun ds g h => runT_no ds g h) (so_cons (so_var 0) (so_cons (so_op sr_sub (so_var 2) (so_c fun _ => .int _)) so_nil)))) (so_cons (so_op sr_add (so_c fun _ => .int _) (so_callT rfl (fun ds g h => runT_no ds g h) (so_cons (so_var 0) (so_cons (so_op sr_sub (so_var 2) (so_c fun _ => .int _)) so_nil)))) so_nil))))))
    (ss_ret (so_b sb_tuple (so_cons (so_var 3) so_nil)))))
  refine ⟨_, ?_, bodyT_ok (W := WD K) (mg := mg) (N := n__law_works) (n0 := 1) (k := 2) (fun _ _ _ _ z => z) ss h⟩
  exact (pss_cons (ps_set (i := 3) nd rfl (by first | exact Or.inl rfl | exact Or.inr rfl) (pe_lst (pa_cons (pe_tup (pa_cons pe_int (pa_cons pe_int (pa_cons (pe_op op_addA pe_int (pe_callH h__law_next hr (by decide) (takes_of rfl rfl rfl rfl) rfl (pa_cons (pv 0) (pa_cons (pe_ix ix_seq (pe_lst (pa_cons pe_int (pa_cons pe_int pa_nil))) (pe_callH h__law_next hr (by decide) (takes_of rfl rfl rfl rfl) rfl (pa_cons (pv 0) (pa_cons pe_int pa_nil))) (fun _ _ => rfl)) pa_nil)))) pa_nil)))) pa_nil)))
    (pss_cons (ps_for (passes_of rfl) rfl (pi_range2 (by rfl) z_range (pa_cons pe_int (pa_cons (pe_op op_addA pe_int (pe_callH h__law_next hr (by decide) (takes_of rfl rfl rfl rfl) rfl (pa_cons (pv 0) (pa_cons (pv 1) pa_nil)))) pa_nil))) (pg_name (i := 4) nd rfl (by first | exact Or.inl rfl | exact Or.inr rfl)) (pss_one (ps_expr (pe_bm PySem.F.plainAttrs_list PySem.F.slot_list_append PySem.F.type_list_append mt_append (pv 3) (pa_cons (pe_tup (pa_cons (pe_callH h__law_next hr (by decide) (takes_of rfl rfl rfl rfl) rfl (pa_cons (pv 0) (pa_cons (pv 4) pa_nil))) (pa_cons (pe_op op_addA pe_int (pe_callH h__law_next hr (by decide) (takes_of rfl rfl rfl rfl) rfl (pa_cons (pv 0) (pa_cons (pe_op op_sub (pv 2) pe_int) pa_nil)))) (pa_cons (pe_op op_addA pe_int (pe_callH h__law_next hr (by decide) (takes_of rfl rfl rfl rfl) rfl (pa_cons (pv 0) (pa_cons (pe_op op_sub (pv 2) pe_int) pa_nil)))) pa_nil)))) pa_nil)))))
    (pss_one (ps_ret (pe_callTy call_tuple_of (by rfl) z_tuple (by decide +kernel) (pa_cons (pv 3) pa_nil))))))
theorem sc__law_worn : FnScope n__law_worn (["_law_d", "_law_works_here", "_law_upto"] : List Str) (defScope s__law_worn) := ⟨rfl, rfl, rfl, by decide +kernel, rfl, by decide +kernel, by decide +kernel⟩
theorem ok__law_worn {f : Addr} {fd : FuncData} (F : FunD K "_law_worn" "_law_worn" (defArgs s__law_worn) (defBody s__law_worn) (defScope s__law_worn) [] [] f fd) (z_range : mg "range" = none) (z_len : mg "len" = none) (z_tuple : mg "tuple" = none) (z_sorted : mg "sorted" = none) (z_set : mg "set" = none) (h__law_next : Has P w K mg base 1 "_law_next" (["_law_dice_here", "_law_many"] : List Str) [] (spT (WD K) mg 1 2 f__law_next)) : FnOk P w K mg base (L2.CX P w) 2 f fd (["_law_d", "_law_works_here", "_law_upto"] : List Str) (spT (WD K) mg 1 3 f__law_worn) := by
  have nd := sc__law_worn.nd
  refine FunD.ok F sc__law_worn (fun vs H Q E h => h.1) (fun cdv A outer s H vs Q E hr h => ?_)
  have ss : SoundS (cD K mg (fun C d _ H => E C d H)) _ b__law_worn := (ss_seq (ss_asg (so_lst so_nil) (sg_name 3))
    (ss_seq (ss_for (si_rng1 (so_callT rfl (fun ds g h => runT_no ds g h) (so_cons (so_var 0) (so_cons (so_op sr_add (so_var 2) (so_c fun _ => .int _)) so_nil)))) (sg_name 4) (ss_seq (ss_asg (so_callT rfl (fun ds g h => runT_no ds g h) (so_cons (so_var 0) (so_cons (so_b sb_len (so_cons (so_var 1) so_nil)) so_nil))) (sg_name 5))
    (ss_if (so_tst (so_op sr_gt (so_var 5) (so_c fun _ => .int _))) (ss_app (so_tup (so_cons (so_var 5) (so_cons (so_callT rfl (fun ds g h => runT_no ds g h) (so_cons (so_var 0) (so_cons (so_op sr_ix (so_op sr_ix (so_var 1) (so_var 5)) (so_c fun _ => .int _)) so_nil))) so_nil)))) ss_next)))
    (ss_frz [3] (ss_ret (so_b sb_tuple (so_cons (so_srtSet (P := P) (w := w) (so_var 3)) so_nil))))))
  refine ⟨_, ?_, bodyT_ok (W := WD K) (mg := mg) (N := n__law_worn) (n0 := 1) (k := 2) (fun _ _ _ _ z => z) ss h⟩
  exact (pss_cons (ps_set (i := 3) nd rfl (by first | exact Or.inl rfl | exact Or.inr rfl) (pe_lst pa_nil))
    (pss_cons (ps_for (passes_of rfl) rfl (pi_range1 (by rfl) z_range (pa_cons (pe_callH h__law_next hr (by decide) (takes_of rfl rfl rfl rfl) rfl (pa_cons (pv 0) (pa_cons (pe_op op_addA (pv 2) pe_int) pa_nil))) pa_nil)) (pg_name (i := 4) nd rfl (by first | exact Or.inl rfl | exact Or.inr rfl)) (pss_cons (ps_set (i := 5) nd rfl (by first | exact Or.inl rfl | exact Or.inr rfl) (pe_callH h__law_next hr (by decide) (takes_of rfl rfl rfl rfl) rfl (pa_cons (pv 0) (pa_cons (pe_callB call_len (by rfl) z_len (by decide +kernel) (pa_cons (pv 1) pa_nil)) pa_nil))))
    (pss_one (ps_if (pt_cmpR op_gt (pv 5) pe_int (nomark _)) (pss_one (ps_expr (pe_bm PySem.F.plainAttrs_list PySem.F.slot_list_append PySem.F.type_list_append mt_append (pv 3) (pa_cons (pe_tup (pa_cons (pv 5) (pa_cons (pe_callH h__law_next hr (by decide) (takes_of rfl rfl rfl rfl) rfl (pa_cons (pv 0) (pa_cons (pe_ix ix_seq (pe_ix ix_seq (pv 1) (pv 5) (fun _ _ => rfl)) pe_int (fun _ _ => rfl)) pa_nil))) pa_nil))) pa_nil)))) pss_nil))))
    (pss_one (ps_ret (pe_callTy call_tuple_of (by rfl) z_tuple (by decide +kernel) (pa_cons (pe_callB (cr_sortedT rfl) (by rfl) z_sorted (by decide +kernel) (pa_cons (pe_callTy (cr_setOfT rfl (un64 hr)) (by rfl) z_set (by decide +kernel) (pa_cons (pv 3) pa_nil)) pa_nil)) pa_nil))))))
theorem sc__law_marks : FnScope n__law_marks (["_law_works_here", "_law_hands", "_law_made"] : List Str) (defScope s__law_marks) := ⟨rfl, rfl, rfl, by decide +kernel, rfl, by decide +kernel, by decide +kernel⟩
theorem ok__law_marks {f : Addr} {fd : FuncData} (F : FunD K "_law_marks" "_law_marks" (defArgs s__law_marks) (defBody s__law_marks) (defScope s__law_marks) [] [] f fd) : FnOk P w K mg base (L2.CX P w) 1 f fd (["_law_works_here", "_law_hands", "_law_made"] : List Str) (spP K mg 3 f__law_marks) := by
  have nd := sc__law_marks.nd
  refine FunD.ok F sc__law_marks (fun vs H Q E h => h.1) (fun cdv A outer s H vs Q E hr h => ?_)
  have ss : SoundS (⟨WU K, mg, fun C d _ H => E C d H⟩ : Ctx K) _ b__law_marks := (ss_ret (so_lc (si_seq (so_var 1)) (sg_any rfl (sg_cons (sg_name 3) (sg_cons (sg_name 4) (sg_cons (sg_name 5) sg_nil)))) (by decide) so_yes (so_op sr_mod (so_op sr_div (so_op sr_mul (so_op sr_ix (so_var 2) (so_var 4)) (so_var 5)) (so_op sr_ix (so_op sr_ix (so_var 0) (so_var 4)) (so_c fun _ => .int _))) (so_var 5))))
  refine ⟨_, ?_, body_ok (N := n__law_marks) (k := 3) (fun _ _ _ _ z => z) ss h⟩
  exact (pss_one (ps_ret (pe_lc (own := [("_law_n", 3), ("_law_arbor", 4), ("_law_marks_here", 5)]) rfl nd (pi_any (pv 1)) (blkOk_by (own := [("_law_n", 3), ("_law_arbor", 4), ("_law_marks_here", 5)]) (N := n__law_marks) (sc := defScope s__law_marks) (by decide +kernel)) (fun _ _ _ _ _ => (pg_any rfl (pgs_cons (pg_name (i := 3) nd rfl (by first | exact Or.inl rfl | exact Or.inr rfl)) (pgs_cons (pg_name (i := 4) nd rfl (by first | exact Or.inl rfl | exact Or.inr rfl)) (pgs_cons (pg_name (i := 5) nd rfl (by first | exact Or.inl rfl | exact Or.inr rfl)) pgs_nil))))) (fun _ _ _ _ _ => pts_nil) (fun _ _ _ _ _ => (pe_op op_mod (pe_op op_fdivW (pe_op op_mulA (pe_ix ix_seq (pv 2) (pv 4) (fun _ _ => rfl)) (pv 5)) (pe_ix ix_seq (pe_ix ix_seq (pv 0) (pv 4) (fun _ _ => rfl)) pe_int (fun _ _ => rfl))) (pv 5))))))
theorem sc__law_steps : FnScope n__law_steps (["_law_works_here", "_law_worn_here", "_law_count"] : List Str) (defScope s__law_steps) := ⟨rfl, rfl, rfl, by decide +kernel, rfl, by decide +kernel, by decide +kernel⟩
theorem ok__law_steps {f : Addr} {fd : FuncData} (F : FunD K "_law_steps" "_law_steps" (defArgs s__law_steps) (defBody s__law_steps) (defScope s__law_steps) [] [] f fd) (z_range : mg "range" = none) (z_len : mg "len" = none) : FnOk P w K mg base (L2.CX P w) 1 f fd (["_law_works_here", "_law_worn_here", "_law_count"] : List Str) (spP K mg 3 f__law_steps) := by
  have nd := sc__law_steps.nd
  refine FunD.ok F sc__law_steps (fun vs H Q E h => h.1) (fun cdv A outer s H vs Q E hr h => ?_)
  have ss : SoundS (⟨WU K, mg, fun C d _ H => E C d H⟩ : Ctx K) _ b__law_steps := (ss_seq (ss_asg (so_lst (so_cons (so_var 2) so_nil)) (sg_name 3))
    (ss_seq (ss_for (si_rng2 (so_c fun _ => .int _) (so_b sb_len (so_cons (so_var 0) so_nil))) (sg_name 4) (ss_seq (ss_asg (so_op sr_ix (so_var 0) (so_var 4)) (sg_any rfl (sg_cons (sg_name 5) (sg_cons (sg_name 6) (sg_cons (sg_name 7) sg_nil)))))
    (ss_seq (ss_asg (so_op sr_div (so_op sr_mul (so_op sr_ix (so_var 3) (so_var 5)) (so_var 6)) (so_op sr_ix (so_op sr_ix (so_var 0) (so_var 5)) (so_c fun _ => .int _))) (sg_name 8))
    (ss_seq (ss_asg (so_lc (si_seq (so_var 1)) (sg_any rfl (sg_cons (sg_name 10) (sg_cons (sg_name 11) sg_nil))) (by decide) (so_tst (so_op sr_eq (so_var 10) (so_var 4))) (so_var 11)) (sg_name 9))
    (ss_seq (ss_frz [9] (ss_asg (so_lc (si_seq (so_var 9)) (sg_name 11) (by decide) (so_tst (so_op sr_lt (so_var 11) (so_op sr_mod (so_var 8) (so_var 6)))) (so_var 11)) (sg_name 12)))
    (ss_app (so_op sr_sub (so_op sr_sub (so_var 8) (so_op sr_mul (so_op sr_div (so_var 8) (so_var 6)) (so_b sb_len (so_cons (so_var 9) so_nil)))) (so_b sb_len (so_cons (so_var 12) so_nil)))))))))
    (ss_retV 3)))
  refine ⟨_, ?_, body_ok (N := n__law_steps) (k := 3) (fun _ _ _ _ z => z) ss h⟩
  exact (pss_cons (ps_set (i := 3) nd rfl (by first | exact Or.inl rfl | exact Or.inr rfl) (pe_lst (pa_cons (pv 2) pa_nil)))
    (pss_cons (ps_for (passes_of rfl) rfl (pi_range2 (by rfl) z_range (pa_cons pe_int (pa_cons (pe_callB call_len (by rfl) z_len (by decide +kernel) (pa_cons (pv 0) pa_nil)) pa_nil))) (pg_name (i := 4) nd rfl (by first | exact Or.inl rfl | exact Or.inr rfl)) (pss_cons (ps_asg (pe_ix ix_seq (pv 0) (pv 4) (fun _ _ => rfl)) (pg_any rfl (pgs_cons (pg_name (i := 5) nd rfl (by first | exact Or.inl rfl | exact Or.inr rfl)) (pgs_cons (pg_name (i := 6) nd rfl (by first | exact Or.inl rfl | exact Or.inr rfl)) (pgs_cons (pg_name (i := 7) nd rfl (by first | exact Or.inl rfl | exact Or.inr rfl)) pgs_nil)))))
    (pss_cons (ps_set (i := 8) nd rfl (by first | exact Or.inl rfl | exact Or.inr rfl) (pe_op op_fdivW (pe_op op_mulA (pe_ix ix_seq (pv 3) (pv 5) (fun _ _ => rfl)) (pv 6)) (pe_ix ix_seq (pe_ix ix_seq (pv 0) (pv 5) (fun _ _ => rfl)) pe_int (fun _ _ => rfl))))
    (pss_cons (ps_setLc (i := 9) (own := [("_law_one", 10), ("_law_tooth", 11)]) rfl nd rfl rfl (sw_true rfl rfl rfl (by decide +kernel)) (pi_any (pv 1)) (blkOk_by (own := [("_law_one", 10), ("_law_tooth", 11)]) (N := n__law_steps) (sc := defScope s__law_steps) (by decide +kernel)) (fun _ _ _ _ _ => (pg_any rfl (pgs_cons (pg_name (i := 10) nd rfl (by first | exact Or.inl rfl | exact Or.inr rfl)) (pgs_cons (pg_name (i := 11) nd rfl (by first | exact Or.inl rfl | exact Or.inr rfl)) pgs_nil)))) (fun _ _ _ _ _ => (pts_one (pt_cmpR (op_eqD hr.units) (pv 10) (pv 4) (nomark _)))) (fun _ _ _ _ _ => (pv 11)))
    (pss_cons (ps_setLc (i := 12) (own := [("_law_tooth", 11)]) rfl nd rfl rfl (sw_true rfl rfl rfl (by decide +kernel)) (pi_any (pv 9)) (blkOk_by (own := [("_law_tooth", 11)]) (N := n__law_steps) (sc := defScope s__law_steps) (by decide +kernel)) (fun _ _ _ _ _ => (pg_name (i := 11) nd rfl (by first | exact Or.inl rfl | exact Or.inr rfl))) (fun _ _ _ _ _ => (pts_one (pt_cmpR op_lt (pv 11) (pe_op op_mod (pv 8) (pv 6)) (nomark _)))) (fun _ _ _ _ _ => (pv 11)))
    (pss_one (ps_expr (pe_bm PySem.F.plainAttrs_list PySem.F.slot_list_append PySem.F.type_list_append mt_append (pv 3) (pa_cons (pe_op op_sub (pe_op op_sub (pv 8) (pe_op op_mulA (pe_op op_fdivW (pv 8) (pv 6)) (pe_callB call_len (by rfl) z_len (by decide +kernel) (pa_cons (pv 9) pa_nil)))) (pe_callB call_len (by rfl) z_len (by decide +kernel) (pa_cons (pv 12) pa_nil))) pa_nil)))))))))
    (pss_one (ps_ret (pv 3)))))
theorem sc__law_pick : FnScope n__law_pick (["_law_d", "_law_some"] : List Str) (defScope s__law_pick) := ⟨rfl, rfl, rfl, by decide +kernel, rfl, by decide +kernel, by decide +kernel⟩
theorem ok__law_pick {f : Addr} {fd : FuncData} (F : FunD K "_law_pick" "_law_pick" (defArgs s__law_pick) (defBody s__law_pick) (defScope s__law_pick) [] [] f fd) (z_len : mg "len" = none) (h__law_next : Has P w K mg base 1 "_law_next" (["_law_dice_here", "_law_many"] : List Str) [] (spT (WD K) mg 1 2 f__law_next)) : FnOk P w K mg base (L2.CX P w) 2 f fd (["_law_d", "_law_some"] : List Str) (spT (WD K) mg 1 2 f__law_pick) := by
  have nd := sc__law_pick.nd
  refine FunD.ok F sc__law_pick (fun vs H Q E h => h.1) (fun cdv A outer s H vs Q E hr h => ?_)
  have ss : SoundS (cD K mg (fun C d _ H => E C d H)) _ b__law_pick := (ss_ret (so_op sr_ix (so_var 1) (so_callT rfl (fun ds g h => runT_no ds g h) (so_cons (so_var 0) (so_cons (so_b sb_len (so_cons (so_var 1) so_nil)) so_nil)))))
  refine ⟨_, ?_, bodyT_ok (W := WD K) (mg := mg) (N := n__law_pick) (n0 := 1) (k := 1) (fun _ _ _ _ z => z) ss h⟩
  exact (pss_one (ps_ret (pe_ix ix_seq (pv 1) (pe_callH h__law_next hr (by decide) (takes_of rfl rfl rfl rfl) rfl (pa_cons (pv 0) (pa_cons (pe_callB call_len (by rfl) z_len (by decide +kernel) (pa_cons (pv 1) pa_nil)) pa_nil))) (fun _ _ => rfl))))
theorem sc__law_like_0 : FnScope n__law_like_0 (["_law_found", "_law_due"] : List Str) (defScope s__law_like_0) := ⟨rfl, rfl, rfl, by decide +kernel, rfl, by decide +kernel, by decide +kernel⟩
theorem ok__law_like_0 {f : Addr} {fd : FuncData} (F : FunD K "_law_like" "_law_like" (defArgs s__law_like_0) (defBody s__law_like_0) (defScope s__law_like_0) [] [] f fd) (z_isinstance : mg "isinstance" = none) (z_tuple : mg "tuple" = none) (z_list : mg "list" = none) (z_bool : mg "bool" = none) (z_int : mg "int" = none) (z_str : mg "str" = none) : FnOk P w K mg base (L2.CX P w) 1 f fd (["_law_found", "_law_due"] : List Str) (spP K mg 2 f__law_like_0) := by
  have nd := sc__law_like_0.nd
  refine FunD.ok F sc__law_like_0 (fun vs H Q E h => h.1) (fun cdv A outer s H vs Q E hr h => ?_)
  have ss : SoundS (⟨WU K, mg, fun C d _ H => E C d H⟩ : Ctx K) _ b__law_like_0 := (ss_seq (ss_if (so_or (so_tB (so_isi (T := "tuple") 0 (by decide) rfl (so_var 1))) (so_tB (so_isi (T := "list") 1 (by decide) rfl (so_var 1)))) (ss_seq ss_never (ss_seq ss_never ss_never)) ss_next)
    (ss_seq (ss_if (so_tst (so_op sr_ne (so_isi (T := "bool") 2 (by decide) rfl (so_var 0)) (so_isi (T := "bool") 2 (by decide) rfl (so_var 1)))) (ss_ret (so_c fun _ => .bl _)) ss_next)
    (ss_seq (ss_if (so_or (so_tst (so_op sr_ne (so_isi (T := "int") 3 (by decide) rfl (so_var 0)) (so_isi (T := "int") 3 (by decide) rfl (so_var 1)))) (so_tst (so_op sr_ne (so_isi (T := "str") 4 (by decide) rfl (so_var 0)) (so_isi (T := "str") 4 (by decide) rfl (so_var 1))))) (ss_ret (so_c fun _ => .bl _)) ss_next)
    (ss_ret (so_op sr_eq (so_var 0) (so_var 1))))))
  refine ⟨_, ?_, body_ok (N := n__law_like_0) (k := 2) (fun _ _ _ _ z => z) ss h⟩
  exact (pss_cons (ps_if (PW.pt (pw_or (pt_val (pe_callB call_isi (by rfl) z_isinstance (by decide +kernel) (pa_cons (pv 1) (pa_cons (pe_bltn (by rfl) z_tuple (by decide +kernel) rfl) pa_nil)))) (pw_or1 (pt_val (pe_callB call_isi (by rfl) z_isinstance (by decide +kernel) (pa_cons (pv 1) (pa_cons (pe_bltn (by rfl) z_list (by decide +kernel) rfl) pa_nil))))))) (pss_cons ps_never (pss_cons ps_never (pss_one ps_never))) pss_nil)
    (pss_cons (ps_if (pt_cmpR (op_neD hr.units) (pe_callB call_isi (by rfl) z_isinstance (by decide +kernel) (pa_cons (pv 0) (pa_cons (pe_bltn (by rfl) z_bool (by decide +kernel) rfl) pa_nil))) (pe_callB call_isi (by rfl) z_isinstance (by decide +kernel) (pa_cons (pv 1) (pa_cons (pe_bltn (by rfl) z_bool (by decide +kernel) rfl) pa_nil))) (nomark _)) (pss_one (ps_ret pe_bl)) pss_nil)
    (pss_cons (ps_if (PW.pt (pw_or (pt_cmpR (op_neD hr.units) (pe_callB call_isi (by rfl) z_isinstance (by decide +kernel) (pa_cons (pv 0) (pa_cons (pe_bltn (by rfl) z_int (by decide +kernel) rfl) pa_nil))) (pe_callB call_isi (by rfl) z_isinstance (by decide +kernel) (pa_cons (pv 1) (pa_cons (pe_bltn (by rfl) z_int (by decide +kernel) rfl) pa_nil))) (nomark _)) (pw_or1 (pt_cmpR (op_neD hr.units) (pe_callB call_isi (by rfl) z_isinstance (by decide +kernel) (pa_cons (pv 0) (pa_cons (pe_bltn (by rfl) z_str (by decide +kernel) rfl) pa_nil))) (pe_callB call_isi (by rfl) z_isinstance (by decide +kernel) (pa_cons (pv 1) (pa_cons (pe_bltn (by rfl) z_str (by decide +kernel) rfl) pa_nil))) (nomark _))))) (pss_one (ps_ret pe_bl)) pss_nil)
    (pss_one (ps_ret (pe_cmpR (op_eqD hr.units) (pv 0) (pv 1) (nomark _)))))))
theorem sc__law_like_1 : FnScope n__law_like_1 (["_law_found", "_law_due"] : List Str) (defScope s__law_like_1) := ⟨rfl, rfl, rfl, by decide +kernel, rfl, by decide +kernel, by decide +kernel⟩
theorem ok__law_like_1 {f : Addr} {fd : FuncData} (F : FunD K "_law_like" "_law_like" (defArgs s__law_like_1) (defBody s__law_like_1) (defScope s__law_like_1) [] [] f fd) (z_isinstance : mg "isinstance" = none) (z_tuple : mg "tuple" = none) (z_list : mg "list" = none) (z_len : mg "len" = none) (z_range : mg "range" = none) (z_bool : mg "bool" = none) (z_int : mg "int" = none) (z_str : mg "str" = none) (h__law_like_0 : Has P w K mg base 1 "_law_like" (["_law_found", "_law_due"] : List Str) [] (spP K mg 2 f__law_like_0)) : FnOk P w K mg base (L2.CX P w) 2 f fd (["_law_found", "_law_due"] : List Str) (spP K mg 2 f__law_like_1) := by
  have nd := sc__law_like_1.nd
  refine FunD.ok F sc__law_like_1 (fun vs H Q E h => h.1) (fun cdv A outer s H vs Q E hr h => ?_)
  have ss : SoundS (⟨WU K, mg, fun C d _ H => E C d H⟩ : Ctx K) _ b__law_like_1 := (ss_seq (ss_if (so_or (so_tB (so_isi (T := "tuple") 0 (by decide) rfl (so_var 1))) (so_tB (so_isi (T := "list") 1 (by decide) rfl (so_var 1)))) (ss_seq (ss_if (so_tst (so_op sr_ne (so_isi (T := "tuple") 0 (by decide) rfl (so_var 0)) (so_isi (T := "tuple") 0 (by decide) rfl (so_var 1)))) (ss_ret (so_c fun _ => .bl _)) ss_next)
    (ss_seq (ss_if (so_or (so_tst (so_op sr_ne (so_isi (T := "list") 1 (by decide) rfl (so_var 0)) (so_isi (T := "list") 1 (by decide) rfl (so_var 1)))) (so_tst (so_op sr_ne (so_b sb_len (so_cons (so_var 0) so_nil)) (so_b sb_len (so_cons (so_var 1) so_nil))))) (ss_ret (so_c fun _ => .bl _)) ss_next)
    (ss_ret (so_op sr_eq (so_lc (si_rng1 (so_b sb_len (so_cons (so_var 1) so_nil))) (sg_name 2) (by decide) (so_not (so_tB (so_callP rfl (fun ds h => runD_no ds h) (so_cons (so_op sr_ix (so_var 0) (so_var 2)) (so_cons (so_op sr_ix (so_var 1) (so_var 2)) so_nil))))) (so_var 2)) (so_lst so_nil))))) ss_next)
    (ss_seq (ss_if (so_tst (so_op sr_ne (so_isi (T := "bool") 2 (by decide) rfl (so_var 0)) (so_isi (T := "bool") 2 (by decide) rfl (so_var 1)))) (ss_ret (so_c fun _ => .bl _)) ss_next)
    (ss_seq (ss_if (so_or (so_tst (so_op sr_ne (so_isi (T := "int") 3 (by decide) rfl (so_var 0)) (so_isi (T := "int") 3 (by decide) rfl (so_var 1)))) (so_tst (so_op sr_ne (so_isi (T := "str") 4 (by decide) rfl (so_var 0)) (so_isi (T := "str") 4 (by decide) rfl (so_var 1))))) (ss_ret (so_c fun _ => .bl _)) ss_next)
    (ss_ret (so_op sr_eq (so_var 0) (so_var 1))))))
  refine ⟨_, ?_, body_ok (N := n__law_like_1) (k := 2) (fun _ _ _ _ z => z) ss h⟩
  exact (pss_cons (ps_if (PW.pt (pw_or (pt_val (pe_callB call_isi (by rfl) z_isinstance (by decide +kernel) (pa_cons (pv 1) (pa_cons (pe_bltn (by rfl) z_tuple (by decide +kernel) rfl) pa_nil)))) (pw_or1 (pt_val (pe_callB call_isi (by rfl) z_isinstance (by decide +kernel) (pa_cons (pv 1) (pa_cons (pe_bltn (by rfl) z_list (by decide +kernel) rfl) pa_nil))))))) (pss_cons (ps_if (pt_cmpR (op_neD hr.units) (pe_callB call_isi (by rfl) z_isinstance (by decide +kernel) (pa_cons (pv 0) (pa_cons (pe_bltn (by rfl) z_tuple (by decide +kernel) rfl) pa_nil))) (pe_callB call_isi (by rfl) z_isinstance (by decide +kernel) (pa_cons (pv 1) (pa_cons (pe_bltn (by rfl) z_tuple (by decide +kernel) rfl) pa_nil))) (nomark _)) (pss_one (ps_ret pe_bl)) pss_nil)
    (pss_cons (ps_if (PW.pt (pw_or (pt_cmpR (op_neD hr.units) (pe_callB call_isi (by rfl) z_isinstance (by decide +kernel) (pa_cons (pv 0) (pa_cons (pe_bltn (by rfl) z_list (by decide +kernel) rfl) pa_nil))) (pe_callB call_isi (by rfl) z_isinstance (by decide +kernel) (pa_cons (pv 1) (pa_cons (pe_bltn (by rfl) z_list (by decide +kernel) rfl) pa_nil))) (nomark _)) (pw_or1 (pt_cmpR (op_neD hr.units) (pe_callB call_len (by rfl) z_len (by decide +kernel) (pa_cons (pv 0) pa_nil)) (pe_callB call_len (by rfl) z_len (by decide +kernel) (pa_cons (pv 1) pa_nil)) (nomark _))))) (pss_one (ps_ret pe_bl)) pss_nil)
    (pss_one (ps_ret (pe_cmpR (op_eqD hr.units) (pe_lc (own := [("_law_k", 2)]) rfl nd (pi_range1 (by rfl) z_range (pa_cons (pe_callB call_len (by rfl) z_len (by decide +kernel) (pa_cons (pv 1) pa_nil)) pa_nil)) (blkOk_by (own := [("_law_k", 2)]) (N := n__law_like_1) (sc := defScope s__law_like_1) (by decide +kernel)) (fun _ _ _ _ _ => (pg_name (i := 2) nd rfl (by first | exact Or.inl rfl | exact Or.inr rfl))) (fun _ _ _ _ _ => (pts_one (pt_not (pt_val (pe_callH h__law_like_0 hr (by decide) takes0 rfl (pa_cons (pe_ix ix_seq (pv 0) (pv 2) (fun _ _ => rfl)) (pa_cons (pe_ix ix_seq (pv 1) (pv 2) (fun _ _ => rfl)) pa_nil))))))) (fun _ _ _ _ _ => (pv 2))) (pe_lst pa_nil) (nomark _)))))) pss_nil)
    (pss_cons (ps_if (pt_cmpR (op_neD hr.units) (pe_callB call_isi (by rfl) z_isinstance (by decide +kernel) (pa_cons (pv 0) (pa_cons (pe_bltn (by rfl) z_bool (by decide +kernel) rfl) pa_nil))) (pe_callB call_isi (by rfl) z_isinstance (by decide +kernel) (pa_cons (pv 1) (pa_cons (pe_bltn (by rfl) z_bool (by decide +kernel) rfl) pa_nil))) (nomark _)) (pss_one (ps_ret pe_bl)) pss_nil)
    (pss_cons (ps_if (PW.pt (pw_or (pt_cmpR (op_neD hr.units) (pe_callB call_isi (by rfl) z_isinstance (by decide +kernel) (pa_cons (pv 0) (pa_cons (pe_bltn (by rfl) z_int (by decide +kernel) rfl) pa_nil))) (pe_callB call_isi (by rfl) z_isinstance (by decide +kernel) (pa_cons (pv 1) (pa_cons (pe_bltn (by rfl) z_int (by decide +kernel) rfl) pa_nil))) (nomark _)) (pw_or1 (pt_cmpR (op_neD hr.units) (pe_callB call_isi (by rfl) z_isinstance (by decide +kernel) (pa_cons (pv 0) (pa_cons (pe_bltn (by rfl) z_str (by decide +kernel) rfl) pa_nil))) (pe_callB call_isi (by rfl) z_isinstance (by decide +kernel) (pa_cons (pv 1) (pa_cons (pe_bltn (by rfl) z_str (by decide +kernel) rfl) pa_nil))) (nomark _))))) (pss_one (ps_ret pe_bl)) pss_nil)
    (pss_one (ps_ret (pe_cmpR (op_eqD hr.units) (pv 0) (pv 1) (nomark _)))))))
theorem sc__law_like_2 : FnScope n__law_like_2 (["_law_found", "_law_due"] : List Str) (defScope s__law_like_2) := ⟨rfl, rfl, rfl, by decide +kernel, rfl, by decide +kernel, by decide +kernel⟩
theorem ok__law_like_2 {f : Addr} {fd : FuncData} (F : FunD K "_law_like" "_law_like" (defArgs s__law_like_2) (defBody s__law_like_2) (defScope s__law_like_2) [] [] f fd) (z_isinstance : mg "isinstance" = none) (z_tuple : mg "tuple" = none) (z_list : mg "list" = none) (z_len : mg "len" = none) (z_range : mg "range" = none) (z_bool : mg "bool" = none) (z_int : mg "int" = none) (z_str : mg "str" = none) (h__law_like_1 : Has P w K mg base 2 "_law_like" (["_law_found", "_law_due"] : List Str) [] (spP K mg 2 f__law_like_1)) : FnOk P w K mg base (L2.CX P w) 3 f fd (["_law_found", "_law_due"] : List Str) (spP K mg 2 f__law_like_2) := by
  have nd := sc__law_like_2.nd
  refine FunD.ok F sc__law_like_2 (fun vs H Q E h => h.1) (fun cdv A outer s H vs Q E hr h => ?_)
  have ss : SoundS (⟨WU K, mg, fun C d _ H => E C d H⟩ : Ctx K) _ b__law_like_2 := (ss_seq (ss_if (so_or (so_tB (so_isi (T := "tuple") 0 (by decide) rfl (so_var 1))) (so_tB (so_isi (T := "list") 1 (by decide) rfl (so_var 1)))) (ss_seq (ss_if (so_tst (so_op sr_ne (so_isi (T := "tuple") 0 (by decide) rfl (so_var 0)) (so_isi (T := "tuple") 0 (by decide) rfl (so_var 1)))) (ss_ret (so_c fun _ => .bl _)) ss_next)
    (ss_seq (ss_if (so_or (so_tst (so_op sr_ne (so_isi (T := "list") 1 (by decide) rfl (so_var 0)) (so_isi (T := "list") 1 (by decide) rfl (so_var 1)))) (so_tst (so_op sr_ne (so_b sb_len (so_cons (so_var 0) so_nil)) (so_b sb_len (so_cons (so_var 1) so_nil))))) (ss_ret (so_c fun _ => .bl _)) ss_next)
    (ss_ret (so_op sr_eq (so_lc (si_rng1 (so_b sb_len (so_cons (so_var 1) so_nil))) (sg_name 2) (by decide) (so_not (so_tB (so_callP rfl (fun ds h => runD_no ds h) (so_cons (so_op sr_ix (so_var 0) (so_var 2)) (so_cons (so_op sr_ix (so_var 1) (so_var 2)) so_nil))))) (so_var 2)) (so_lst so_nil))))) ss_next)
    (ss_seq (ss_if (so_tst (so_op sr_ne (so_isi (T := "bool") 2 (by decide) rfl (so_var 0)) (so_isi (T := "bool") 2 (by decide) rfl (so_var 1)))) (ss_ret (so_c fun _ => .bl _)) ss_next)
    (ss_seq (ss_if (so_or (so_tst (so_op sr_ne (so_isi (T := "int") 3 (by decide) rfl (so_var 0)) (so_isi (T := "int") 3 (by decide) rfl (so_var 1)))) (so_tst (so_op sr_ne (so_isi (T := "str") 4 (by decide) rfl (so_var 0)) (so_isi (T := "str") 4 (by decide) rfl (so_var 1))))) (ss_ret (so_c fun _ => .bl _)) ss_next)
    (ss_ret (so_op sr_eq (so_var 0) (so_var 1))))))
  refine ⟨_, ?_, body_ok (N := n__law_like_2) (k := 2) (fun _ _ _ _ z => z) ss h⟩
  exact (pss_cons (ps_if (PW.pt (pw_or (pt_val (pe_callB call_isi (by rfl) z_isinstance (by decide +kernel) (pa_cons (pv 1) (pa_cons (pe_bltn (by rfl) z_tuple (by decide +kernel) rfl) pa_nil)))) (pw_or1 (pt_val (pe_callB call_isi (by rfl) z_isinstance (by decide +kernel) (pa_cons (pv 1) (pa_cons (pe_bltn (by rfl) z_list (by decide +kernel) rfl) pa_nil))))))) (pss_cons (ps_if (pt_cmpR (op_neD hr.units) (pe_callB call_isi (by rfl) z_isinstance (by decide +kernel) (pa_cons (pv 0) (pa_cons (pe_bltn (by rfl) z_tuple (by decide +kernel) rfl) pa_nil))) (pe_callB call_isi (by rfl) z_isinstance (by decide +kernel) (pa_cons (pv 1) (pa_cons (pe_bltn (by rfl) z_tuple (by decide +kernel) rfl) pa_nil))) (nomark _)) (pss_one (ps_ret pe_bl)) pss_nil)
    (pss_cons (ps_if (PW.pt (pw_or (pt_cmpR (op_neD hr.units) (pe_callB call_isi (by rfl) z_isinstance (by decide +kernel) (pa_cons (pv 0) (pa_cons (pe_bltn (by rfl) z_list (by decide +kernel) rfl) pa_nil))) (pe_callB call_isi (by rfl) z_isinstance (by decide +kernel) (pa_cons (pv 1) (pa_cons (pe_bltn (by rfl) z_list (by decide +kernel) rfl) pa_nil))) (nomark _)) (pw_or1 (pt_cmpR (op_neD hr.units) (pe_callB call_len (by rfl) z_len (by decide +kernel) (pa_cons (pv 0) pa_nil)) (pe_callB call_len (by rfl) z_len (by decide +kernel) (pa_cons (pv 1) pa_nil)) (nomark _))))) (pss_one (ps_ret pe_bl)) pss_nil)
    (pss_one (ps_ret (pe_cmpR (op_eqD hr.units) (pe_lc (own := [("_law_k", 2)]) rfl nd (pi_range1 (by rfl) z_range (pa_cons (pe_callB call_len (by rfl) z_len (by decide +kernel) (pa_cons (pv 1) pa_nil)) pa_nil)) (blkOk_by (own := [("_law_k", 2)]) (N := n__law_like_2) (sc := defScope s__law_like_2) (by decide +kernel)) (fun _ _ _ _ _ => (pg_name (i := 2) nd rfl (by first | exact Or.inl rfl | exact Or.inr rfl))) (fun _ _ _ _ _ => (pts_one (pt_not (pt_val (pe_callH h__law_like_1 hr (by decide) takes0 rfl (pa_cons (pe_ix ix_seq (pv 0) (pv 2) (fun _ _ => rfl)) (pa_cons (pe_ix ix_seq (pv 1) (pv 2) (fun _ _ => rfl)) pa_nil))))))) (fun _ _ _ _ _ => (pv 2))) (pe_lst pa_nil) (nomark _)))))) pss_nil)
    (pss_cons (ps_if (pt_cmpR (op_neD hr.units) (pe_callB call_isi (by rfl) z_isinstance (by decide +kernel) (pa_cons (pv 0) (pa_cons (pe_bltn (by rfl) z_bool (by decide +kernel) rfl) pa_nil))) (pe_callB call_isi (by rfl) z_isinstance (by decide +kernel) (pa_cons (pv 1) (pa_cons (pe_bltn (by rfl) z_bool (by decide +kernel) rfl) pa_nil))) (nomark _)) (pss_one (ps_ret pe_bl)) pss_nil)
    (pss_cons (ps_if (PW.pt (pw_or (pt_cmpR (op_neD hr.units) (pe_callB call_isi (by rfl) z_isinstance (by decide +kernel) (pa_cons (pv 0) (pa_cons (pe_bltn (by rfl) z_int (by decide +kernel) rfl) pa_nil))) (pe_callB call_isi (by rfl) z_isinstance (by decide +kernel) (pa_cons (pv 1) (pa_cons (pe_bltn (by rfl) z_int (by decide +kernel) rfl) pa_nil))) (nomark _)) (pw_or1 (pt_cmpR (op_neD hr.units) (pe_callB call_isi (by rfl) z_isinstance (by decide +kernel) (pa_cons (pv 0) (pa_cons (pe_bltn (by rfl) z_str (by decide +kernel) rfl) pa_nil))) (pe_callB call_isi (by rfl) z_isinstance (by decide +kernel) (pa_cons (pv 1) (pa_cons (pe_bltn (by rfl) z_str (by decide +kernel) rfl) pa_nil))) (nomark _))))) (pss_one (ps_ret pe_bl)) pss_nil)
    (pss_one (ps_ret (pe_cmpR (op_eqD hr.units) (pv 0) (pv 1) (nomark _)))))))
theorem sc__law_like_3 : FnScope n__law_like_3 (["_law_found", "_law_due"] : List Str) (defScope s__law_like_3) := ⟨rfl, rfl, rfl, by decide +kernel, rfl, by decide +kernel, by decide +kernel⟩
theorem ok__law_like_3 {f : Addr} {fd : FuncData} (F : FunD K "_law_like" "_law_like" (defArgs s__law_like_3) (defBody s__law_like_3) (defScope s__law_like_3) [] [] f fd) (z_isinstance : mg "isinstance" = none) (z_tuple : mg "tuple" = none) (z_list : mg "list" = none) (z_len : mg "len" = none) (z_range : mg "range" = none) (z_bool : mg "bool" = none) (z_int : mg "int" = none) (z_str : mg "str" = none) (h__law_like_2 : Has P w K mg base 3 "_law_like" (["_law_found", "_law_due"] : List Str) [] (spP K mg 2 f__law_like_2)) : FnOk P w K mg base (L2.CX P w) 4 f fd (["_law_found", "_law_due"] : List Str) (spP K mg 2 f__law_like_3) := by
  have nd := sc__law_like_3.nd
  refine FunD.ok F sc__law_like_3 (fun vs H Q E h => h.1) (fun cdv A outer s H vs Q E hr h => ?_)
  have ss : SoundS (⟨WU K, mg, fun C d _ H => E C d H⟩ : Ctx K) _ b__law_like_3 := (ss_seq (ss_if (so_or (so_tB (so_isi (T := "tuple") 0 (by decide) rfl (so_var 1))) (so_tB (so_isi (T := "list") 1 (by decide) rfl (so_var 1)))) (ss_seq (ss_if (so_tst (so_op sr_ne (so_isi (T := "tuple") 0 (by decide) rfl (so_var 0)) (so_isi (T := "tuple") 0 (by decide) rfl (so_var 1)))) (ss_ret (so_c fun _ => .bl _)) ss_next)
    (ss_seq (ss_if (so_or (so_tst (so_op sr_ne (so_isi (T := "list") 1 (by decide) rfl (so_var 0)) (so_isi (T := "list") 1 (by decide) rfl (so_var 1)))) (so_tst (so_op sr_ne (so_b sb_len (so_cons (so_var 0) so_nil)) (so_b sb_len (so_cons (so_var 1) so_nil))))) (ss_ret (so_c fun _ => .bl _)) ss_next)
    (ss_ret (so_op sr_eq (so_lc (si_rng1 (so_b sb_len (so_cons (so_var 1) so_nil))) (sg_name 2) (by decide) (so_not (so_tB (so_callP rfl (fun ds h => runD_no ds h) (so_cons (so_op sr_ix (so_var 0) (so_var 2)) (so_cons (so_op sr_ix (so_var 1) (so_var 2)) so_nil))))) (so_var 2)) (so_lst so_nil))))) ss_next)
    (ss_seq (ss_if (so_tst (so_op sr_ne (so_isi (T := "bool") 2 (by decide) rfl (so_var 0)) (so_isi (T := "bool") 2 (by decide) rfl (so_var 1)))) (ss_ret (so_c fun _ => .bl _)) ss_next)
    (ss_seq (ss_if (so_or (so_tst (so_op sr_ne (so_isi (T := "int") 3 (by decide) rfl (so_var 0)) (so_isi (T := "int") 3 (by decide) rfl (so_var 1)))) (so_tst (so_op sr_ne (so_isi (T := "str") 4 (by decide) rfl (so_var 0)) (so_isi (T := "str") 4 (by decide) rfl (so_var 1))))) (ss_ret (so_c fun _ => .bl _)) ss_next)
    (ss_ret (so_op sr_eq (so_var 0) (so_var 1))))))
  refine ⟨_, ?_, body_ok (N := n__law_like_3) (k := 2) (fun _ _ _ _ z => z) ss h⟩
  exact (pss_cons (ps_if (PW.pt (pw_or (pt_val (pe_callB call_isi (by rfl) z_isinstance (by decide +kernel) (pa_cons (pv 1) (pa_cons (pe_bltn (by rfl) z_tuple (by decide +kernel) rfl) pa_nil)))) (pw_or1 (pt_val (pe_callB call_isi (by rfl) z_isinstance (by decide +kernel) (pa_cons (pv 1) (pa_cons (pe_bltn (by rfl) z_list (by decide +kernel) rfl) pa_nil))))))) (pss_cons (ps_if (pt_cmpR (op_neD hr.units) (pe_callB call_isi (by rfl) z_isinstance (by decide +kernel) (pa_cons (pv 0) (pa_cons (pe_bltn (by rfl) z_tuple (by decide +kernel) rfl) pa_nil))) (pe_callB call_isi (by rfl) z_isinstance (by decide +kernel) (pa_cons (pv 1) (pa_cons (pe_bltn (by rfl) z_tuple (by decide +kernel) rfl) pa_nil))) (nomark _)) (pss_one (ps_ret pe_bl)) pss_nil)
    (pss_cons (ps_if (PW.pt (pw_or (pt_cmpR (op_neD hr.units) (pe_callB call_isi (by rfl) z_isinstance (by decide +kernel) (pa_cons (pv 0) (pa_cons (pe_bltn (by rfl) z_list (by decide +kernel) rfl) pa_nil))) (pe_callB call_isi (by rfl) z_isinstance (by decide +kernel) (pa_cons (pv 1) (pa_cons (pe_bltn (by rfl) z_list (by decide +kernel) rfl) pa_nil))) (nomark _)) (pw_or1 (pt_cmpR (op_neD hr.units) (pe_callB call_len (by rfl) z_len (by decide +kernel) (pa_cons (pv 0) pa_nil)) (pe_callB call_len (by rfl) z_len (by decide +kernel) (pa_cons (pv 1) pa_nil)) (nomark _))))) (pss_one (ps_ret pe_bl)) pss_nil)
    (pss_one (ps_ret (pe_cmpR (op_eqD hr.units) (pe_lc (own := [("_law_k", 2)]) rfl nd (pi_range1 (by rfl) z_range (pa_cons (pe_callB call_len (by rfl) z_len (by decide +kernel) (pa_cons (pv 1) pa_nil)) pa_nil)) (blkOk_by (own := [("_law_k", 2)]) (N := n__law_like_3) (sc := defScope s__law_like_3) (by decide +kernel)) (fun _ _ _ _ _ => (pg_name (i := 2) nd rfl (by first | exact Or.inl rfl | exact Or.inr rfl))) (fun _ _ _ _ _ => (pts_one (pt_not (pt_val (pe_callH h__law_like_2 hr (by decide) takes0 rfl (pa_cons (pe_ix ix_seq (pv 0) (pv 2) (fun _ _ => rfl)) (pa_cons (pe_ix ix_seq (pv 1) (pv 2) (fun _ _ => rfl)) pa_nil))))))) (fun _ _ _ _ _ => (pv 2))) (pe_lst pa_nil) (nomark _)))))) pss_nil)
    (pss_cons (ps_if (pt_cmpR (op_neD hr.units) (pe_callB call_isi (by rfl) z_isinstance (by decide +kernel) (pa_cons (pv 0) (pa_cons (pe_bltn (by rfl) z_bool (by decide +kernel) rfl) pa_nil))) (pe_callB call_isi (by rfl) z_isinstance (by decide +kernel) (pa_cons (pv 1) (pa_cons (pe_bltn (by rfl) z_bool (by decide +kernel) rfl) pa_nil))) (nomark _)) (pss_one (ps_ret pe_bl)) pss_nil)
    (pss_cons (ps_if (PW.pt (pw_or (pt_cmpR (op_neD hr.units) (pe_callB call_isi (by rfl) z_isinstance (by decide +kernel) (pa_cons (pv 0) (pa_cons (pe_bltn (by rfl) z_int (by decide +kernel) rfl) pa_nil))) (pe_callB call_isi (by rfl) z_isinstance (by decide +kernel) (pa_cons (pv 1) (pa_cons (pe_bltn (by rfl) z_int (by decide +kernel) rfl) pa_nil))) (nomark _)) (pw_or1 (pt_cmpR (op_neD hr.units) (pe_callB call_isi (by rfl) z_isinstance (by decide +kernel) (pa_cons (pv 0) (pa_cons (pe_bltn (by rfl) z_str (by decide +kernel) rfl) pa_nil))) (pe_callB call_isi (by rfl) z_isinstance (by decide +kernel) (pa_cons (pv 1) (pa_cons (pe_bltn (by rfl) z_str (by decide +kernel) rfl) pa_nil))) (nomark _))))) (pss_one (ps_ret pe_bl)) pss_nil)
    (pss_one (ps_ret (pe_cmpR (op_eqD hr.units) (pv 0) (pv 1) (nomark _)))))))
theorem sc__law_told : FnScope n__law_told (["_law_work"] : List Str) (defScope s__law_told) := ⟨rfl, rfl, rfl, by decide +kernel, rfl, by decide +kernel, by decide +kernel⟩
theorem ok__law_told {X : Cx} {g : Addr} {cdg : Value} {q : Str} (hK : X.K = K) (hM : X.mg = mg) {e_BadWorks_ : Addr} (e_BadWorks : mg "BadWorks" = some (.ref e_BadWorks_)) {e_BadHands_ : Addr} (e_BadHands : mg "BadHands" = some (.ref e_BadHands_)) {e_BadWorn_ : Addr} (e_BadWorn : mg "BadWorn" = some (.ref e_BadWorn_)) {e_BadSeen_ : Addr} (e_BadSeen : mg "BadSeen" = some (.ref e_BadSeen_)) {e_BadDeed_ : Addr} (e_BadDeed : mg "BadDeed" = some (.ref e_BadDeed_)) {e_BadBeats_ : Addr} (e_BadBeats : mg "BadBeats" = some (.ref e_BadBeats_)) {e_NoHand_ : Addr} (e_NoHand : mg "NoHand" = some (.ref e_NoHand_)) {e_BadCalendar_ : Addr} (e_BadCalendar : mg "BadCalendar" = some (.ref e_BadCalendar_)) {e_BadDays_ : Addr} (e_BadDays : mg "BadDays" = some (.ref e_BadDays_)) {e_NoDate_ : Addr} (e_NoDate : mg "NoDate" = some (.ref e_NoDate_)) {e_BadYears_ : Addr} (e_BadYears : mg "BadYears" = some (.ref e_BadYears_)) {e_BadPlaces_ : Addr} (e_BadPlaces : mg "BadPlaces" = some (.ref e_BadPlaces_)) {e_BadLevels_ : Addr} (e_BadLevels : mg "BadLevels" = some (.ref e_BadLevels_)) {e_BadMark_ : Addr} (e_BadMark : mg "BadMark" = some (.ref e_BadMark_)) {e_Taken_ : Addr} (e_Taken : mg "Taken" = some (.ref e_Taken_)) {e_NotWorn_ : Addr} (e_NotWorn : mg "NotWorn" = some (.ref e_NotWorn_)) {e_BadText_ : Addr} (e_BadText : mg "BadText" = some (.ref e_BadText_)) {e_WorksError_ : Addr} (e_WorksError : mg "WorksError" = some (.ref e_WorksError_)) (z_isinstance : mg "isinstance" = none) (xf_BadSeen : xfB K e_BadSeen_ = true) (no_BadSeen : PySem.W.findIn K (.ref e_BadSeen_) "at" = some none) (xc_BadSeen : excCB K e_BadSeen_ = true) (xb_BadSeen : PySem.W.exmOne K (.ref e_BadSeen_) (.ref e_BadText_) = some false) (xw_BadSeen : PySem.W.exmOne K (.ref e_BadSeen_) (.ref e_WorksError_) = some true) (q_BadSeen_BadWorks : PySem.W.kitOne K (.ref e_BadSeen_) (.ref e_BadWorks_) = some false) (q_BadSeen_BadHands : PySem.W.kitOne K (.ref e_BadSeen_) (.ref e_BadHands_) = some false) (q_BadSeen_BadWorn : PySem.W.kitOne K (.ref e_BadSeen_) (.ref e_BadWorn_) = some false) (q_BadSeen_BadSeen : PySem.W.kitOne K (.ref e_BadSeen_) (.ref e_BadSeen_) = some true) (q_BadSeen_BadDeed : PySem.W.kitOne K (.ref e_BadSeen_) (.ref e_BadDeed_) = some false) (q_BadSeen_BadBeats : PySem.W.kitOne K (.ref e_BadSeen_) (.ref e_BadBeats_) = some false) (q_BadSeen_NoHand : PySem.W.kitOne K (.ref e_BadSeen_) (.ref e_NoHand_) = some false) (q_BadSeen_BadCalendar : PySem.W.kitOne K (.ref e_BadSeen_) (.ref e_BadCalendar_) = some false) (q_BadSeen_BadDays : PySem.W.kitOne K (.ref e_BadSeen_) (.ref e_BadDays_) = some false) (q_BadSeen_NoDate : PySem.W.kitOne K (.ref e_BadSeen_) (.ref e_NoDate_) = some false) (q_BadSeen_BadYears : PySem.W.kitOne K (.ref e_BadSeen_) (.ref e_BadYears_) = some false) (q_BadSeen_BadPlaces : PySem.W.kitOne K (.ref e_BadSeen_) (.ref e_BadPlaces_) = some false) (q_BadSeen_BadLevels : PySem.W.kitOne K (.ref e_BadSeen_) (.ref e_BadLevels_) = some false) (q_BadSeen_BadMark : PySem.W.kitOne K (.ref e_BadSeen_) (.ref e_BadMark_) = some false) (q_BadSeen_Taken : PySem.W.kitOne K (.ref e_BadSeen_) (.ref e_Taken_) = some false) (q_BadSeen_NotWorn : PySem.W.kitOne K (.ref e_BadSeen_) (.ref e_NotWorn_) = some false) : Tells X n__law_told "_law_told" (defScope s__law_told) g cdg (defBody s__law_told) "_law_work" q (TTrefA K mg ns_told na_told) := by
  subst hK hM
  have nd := sc__law_told.nd
  refine tells_okA (X := X) (Ng := n__law_told) nd rfl rfl (by decide) rfl rfl e_BadText e_WorksError (by decide) (by decide) (fun n hn p hp => ?cs) (fun n hn hne p hp => ?ca) (fun hn => ?ct)
  case cs => exact absurd hn (by simp)
  case ca =>
    simp only [List.mem_cons, List.not_mem_nil, or_false] at hn
    rcases hn with rfl
    · rw [e_BadSeen] at hp
      cases hp
      refine ⟨xb_BadSeen, xw_BadSeen, fun k dd s H ea oe pn hz hv hr => ?_⟩
      have ci : CallR ((cxOf CX0 X.prog X.w X.K X.mg X.base n__law_told "_law_told" (defScope s__law_told) g cdg X.A X.stack s H C8.E0).nox.suite ea ((ea, oe) :: pn)) (.builtin "isinstance") (rIsEA X.K e_BadSeen_ ea dd [(("at" : Str), .int k)]) := call_isEA (X := (cxOf CX0 X.prog X.w X.K X.mg X.base n__law_told "_law_told" (defScope s__law_told) g cdg X.A X.stack s H C8.E0).nox) (excCB_ok xc_BadSeen) hz hv
      have ss : SoundS (⟨WXA X.K ea dd "at" k, X.mg, fun _ _ _ _ => False⟩ : Ctx X.K) _ (b__law_told_BadSeen k) := (ss_seq (ss_asg (so_lst (so_cons (so_isEA 1 q_BadSeen_BadWorks) (so_cons (so_isEA 1 q_BadSeen_BadHands) (so_cons (so_isEA 1 q_BadSeen_BadWorn) so_nil)))) (sg_name 2))
    (ss_seq (ss_asg (so_op sr_add (so_var 2) (so_lst (so_cons (so_isEA 1 q_BadSeen_BadSeen) (so_cons (so_isEA 1 q_BadSeen_BadDeed) (so_cons (so_isEA 1 q_BadSeen_BadBeats) so_nil))))) (sg_name 2))
    (ss_seq (ss_asg (so_op sr_add (so_var 2) (so_lst (so_cons (so_isEA 1 q_BadSeen_NoHand) (so_cons (so_isEA 1 q_BadSeen_BadCalendar) (so_cons (so_isEA 1 q_BadSeen_BadDays) so_nil))))) (sg_name 2))
    (ss_seq (ss_asg (so_op sr_add (so_var 2) (so_lst (so_cons (so_isEA 1 q_BadSeen_NoDate) (so_cons (so_isEA 1 q_BadSeen_BadYears) (so_cons (so_isEA 1 q_BadSeen_BadPlaces) so_nil))))) (sg_name 2))
    (ss_seq (ss_asg (so_op sr_add (so_var 2) (so_lst (so_cons (so_isEA 1 q_BadSeen_BadLevels) (so_cons (so_isEA 1 q_BadSeen_BadMark) (so_cons (so_isEA 1 q_BadSeen_Taken) so_nil))))) (sg_name 2))
    (ss_seq (ss_app (so_isEA 1 q_BadSeen_NotWorn))
    (ss_seq (ss_asg (so_lst (so_cons (so_c fun _ => .str _) (so_cons (so_c fun _ => .str _) (so_cons (so_c fun _ => .str _) (so_cons (so_c fun _ => .str _) (so_cons (so_c fun _ => .str _) (so_cons (so_c fun _ => .str _) (so_cons (so_c fun _ => .str _) (so_cons (so_c fun _ => .str _) so_nil))))))))) (sg_name 3))
    (ss_seq (ss_asg (so_op sr_add (so_var 3) (so_lst (so_cons (so_c fun _ => .str _) (so_cons (so_c fun _ => .str _) (so_cons (so_c fun _ => .str _) (so_cons (so_c fun _ => .str _) (so_cons (so_c fun _ => .str _) (so_cons (so_c fun _ => .str _) (so_cons (so_c fun _ => .str _) (so_cons (so_c fun _ => .str _) so_nil)))))))))) (sg_name 3))
    (ss_seq (ss_asg (so_if (so_tst (so_op sr_eq (so_cnt 2 (fun _ => .bl _)) (so_c fun _ => .int _))) (so_op sr_ix (so_var 3) (so_idx 2 (fun _ => .bl _))) (so_c fun _ => .str _)) (sg_name 4))
    (ss_ret (so_op sr_add (so_tup (so_cons (so_c fun _ => .str _) (so_cons (so_var 4) so_nil))) (so_if (so_tst (so_op sr_in (so_var 4) (so_sl ssl_any (so_var 3) so_noPart (so_part (so_c fun _ => .int _))))) (so_tup (so_cons (so_xf (C := e_BadSeen_) 1) so_nil)) (so_tup so_nil)))))))))))))
      refine ⟨_, _, ?_, ss, told_BadSeen k⟩
      exact (pss_cons (ps_set (i := 2) nd rfl (by first | exact Or.inl rfl | exact Or.inr rfl) (pe_lst (pa_cons (pe_callB ci (by rfl) z_isinstance (by decide +kernel) (pa_cons (pv 1) (pa_cons (pe_glob (v := .ref e_BadWorks_) rfl e_BadWorks rfl) pa_nil))) (pa_cons (pe_callB ci (by rfl) z_isinstance (by decide +kernel) (pa_cons (pv 1) (pa_cons (pe_glob (v := .ref e_BadHands_) rfl e_BadHands rfl) pa_nil))) (pa_cons (pe_callB ci (by rfl) z_isinstance (by decide +kernel) (pa_cons (pv 1) (pa_cons (pe_glob (v := .ref e_BadWorn_) rfl e_BadWorn rfl) pa_nil))) pa_nil)))))
    (pss_cons (ps_set (i := 2) nd rfl (by first | exact Or.inl rfl | exact Or.inr rfl) (pe_op op_addA (pv 2) (pe_lst (pa_cons (pe_callB ci (by rfl) z_isinstance (by decide +kernel) (pa_cons (pv 1) (pa_cons (pe_glob (v := .ref e_BadSeen_) rfl e_BadSeen rfl) pa_nil))) (pa_cons (pe_callB ci (by rfl) z_isinstance (by decide +kernel) (pa_cons (pv 1) (pa_cons (pe_glob (v := .ref e_BadDeed_) rfl e_BadDeed rfl) pa_nil))) (pa_cons (pe_callB ci (by rfl) z_isinstance (by decide +kernel) (pa_cons (pv 1) (pa_cons (pe_glob (v := .ref e_BadBeats_) rfl e_BadBeats rfl) pa_nil))) pa_nil))))))
    (pss_cons (ps_set (i := 2) nd rfl (by first | exact Or.inl rfl | exact Or.inr rfl) (pe_op op_addA (pv 2) (pe_lst (pa_cons (pe_callB ci (by rfl) z_isinstance (by decide +kernel) (pa_cons (pv 1) (pa_cons (pe_glob (v := .ref e_NoHand_) rfl e_NoHand rfl) pa_nil))) (pa_cons (pe_callB ci (by rfl) z_isinstance (by decide +kernel) (pa_cons (pv 1) (pa_cons (pe_glob (v := .ref e_BadCalendar_) rfl e_BadCalendar rfl) pa_nil))) (pa_cons (pe_callB ci (by rfl) z_isinstance (by decide +kernel) (pa_cons (pv 1) (pa_cons (pe_glob (v := .ref e_BadDays_) rfl e_BadDays rfl) pa_nil))) pa_nil))))))
    (pss_cons (ps_set (i := 2) nd rfl (by first | exact Or.inl rfl | exact Or.inr rfl) (pe_op op_addA (pv 2) (pe_lst (pa_cons (pe_callB ci (by rfl) z_isinstance (by decide +kernel) (pa_cons (pv 1) (pa_cons (pe_glob (v := .ref e_NoDate_) rfl e_NoDate rfl) pa_nil))) (pa_cons (pe_callB ci (by rfl) z_isinstance (by decide +kernel) (pa_cons (pv 1) (pa_cons (pe_glob (v := .ref e_BadYears_) rfl e_BadYears rfl) pa_nil))) (pa_cons (pe_callB ci (by rfl) z_isinstance (by decide +kernel) (pa_cons (pv 1) (pa_cons (pe_glob (v := .ref e_BadPlaces_) rfl e_BadPlaces rfl) pa_nil))) pa_nil))))))
    (pss_cons (ps_set (i := 2) nd rfl (by first | exact Or.inl rfl | exact Or.inr rfl) (pe_op op_addA (pv 2) (pe_lst (pa_cons (pe_callB ci (by rfl) z_isinstance (by decide +kernel) (pa_cons (pv 1) (pa_cons (pe_glob (v := .ref e_BadLevels_) rfl e_BadLevels rfl) pa_nil))) (pa_cons (pe_callB ci (by rfl) z_isinstance (by decide +kernel) (pa_cons (pv 1) (pa_cons (pe_glob (v := .ref e_BadMark_) rfl e_BadMark rfl) pa_nil))) (pa_cons (pe_callB ci (by rfl) z_isinstance (by decide +kernel) (pa_cons (pv 1) (pa_cons (pe_glob (v := .ref e_Taken_) rfl e_Taken rfl) pa_nil))) pa_nil))))))
    (pss_cons (ps_expr (pe_bm PySem.F.plainAttrs_list PySem.F.slot_list_append PySem.F.type_list_append mt_append (pv 2) (pa_cons (pe_callB ci (by rfl) z_isinstance (by decide +kernel) (pa_cons (pv 1) (pa_cons (pe_glob (v := .ref e_NotWorn_) rfl e_NotWorn rfl) pa_nil))) pa_nil)))
    (pss_cons (ps_set (i := 3) nd rfl (by first | exact Or.inl rfl | exact Or.inr rfl) (pe_lst (pa_cons pe_str (pa_cons pe_str (pa_cons pe_str (pa_cons pe_str (pa_cons pe_str (pa_cons pe_str (pa_cons pe_str (pa_cons pe_str pa_nil))))))))))
    (pss_cons (ps_set (i := 3) nd rfl (by first | exact Or.inl rfl | exact Or.inr rfl) (pe_op op_addA (pv 3) (pe_lst (pa_cons pe_str (pa_cons pe_str (pa_cons pe_str (pa_cons pe_str (pa_cons pe_str (pa_cons pe_str (pa_cons pe_str (pa_cons pe_str pa_nil)))))))))))
    (pss_cons (ps_set (i := 4) nd rfl (by first | exact Or.inl rfl | exact Or.inr rfl) (pe_ifExp (pt_cmpR (op_eqD (have u := hr.units; u)) (pe_bm PySem.F.plainAttrs_list PySem.F.slot_list_count PySem.F.type_list_count (mt_cntD (have u := un64 hr; u)) (pv 2) (pa_cons pe_bl pa_nil)) pe_int (nomark _)) (pe_ix ix_seq (pv 3) (pe_bm PySem.F.plainAttrs_list PySem.F.slot_list_index PySem.F.type_list_index mt_index (pv 2) (pa_cons pe_bl pa_nil)) (fun _ _ => rfl)) pe_str))
    (pss_one (ps_ret (pe_op op_addA (pe_tup (pa_cons pe_str (pa_cons (pv 4) pa_nil))) (pe_ifExp (pt_cmpR (op_inA (have u := un65 hr; u)) (pv 4) (pe_slice sl_any (pv 3) po_none (po_some pe_int)) (by rfl)) (pe_tup (pa_cons (pe_xf (X := (cxOf CX0 X.prog X.w X.K X.mg X.base n__law_told "_law_told" (defScope s__law_told) g cdg X.A X.stack s H C8.E0).nox) (xfB_ok xf_BadSeen) no_BadSeen hz hv (pv 1)) pa_nil)) (pe_tup pa_nil))))))))))))))
  case ct => exact absurd hn (by decide)
theorem sc_is_arbor : FnScope n_is_arbor (["number", "arbor"] : List Str) (defScope s_is_arbor) := ⟨rfl, rfl, rfl, by decide +kernel, rfl, by decide +kernel, by decide +kernel⟩
theorem ok_is_arbor {t_MOST_TEETH : Tok} {t_LEAST_TEETH : Tok} {f : Addr} {fd : FuncData} (F : FunD K "is_arbor" "is_arbor" (defArgs s_is_arbor) (defBody s_is_arbor) (defScope s_is_arbor) [] [] f fd) (g_MOST_TEETH : mg "MOST_TEETH" = some (.int 99 t_MOST_TEETH)) (g_LEAST_TEETH : mg "LEAST_TEETH" = some (.int 4 t_LEAST_TEETH)) : FnOk P w K mg base (L2.CX P w) 1 f fd (["number", "arbor"] : List Str) (spP K mg 2 f_is_arbor) := by
  have nd := sc_is_arbor.nd
  refine FunD.ok F sc_is_arbor (fun vs H Q E h => h.1) (fun cdv A outer s H vs Q E hr h => ?_)
  have ss : SoundS (⟨WU K, mg, fun C d _ H => E C d H⟩ : Ctx K) _ b_is_arbor := (ss_seq (ss_asg (so_var 1) (sg_any rfl (sg_cons (sg_name 2) (sg_cons (sg_name 3) (sg_cons (sg_name 4) sg_nil)))))
    (ss_seq (ss_if (so_tst (so_op sr_eq (so_var 0) (so_c fun _ => .int _))) (ss_ret (so_andV (so_op sr_eq (so_tup (so_cons (so_var 2) (so_cons (so_var 3) so_nil))) (so_tup (so_cons (so_c fun _ => .int _) (so_cons (so_c fun _ => .int _) so_nil)))) (so_chain sr_le sr_le (so_c fun _ => .int _) (so_var 4) (so_c fun _ => .int _)))) ss_next)
    (ss_ret (so_andV (so_chain sr_le sr_lt (so_c fun _ => .int _) (so_var 2) (so_var 0)) (so_andV (so_chain sr_le sr_le (so_c fun _ => .int _) (so_var 3) (so_c fun _ => .int _)) (so_chain sr_le sr_le (so_c fun _ => .int _) (so_var 4) (so_c fun _ => .int _)))))))
  refine ⟨_, ?_, body_ok (N := n_is_arbor) (k := 2) (fun _ _ _ _ z => z) ss h⟩
  exact (pss_cons (ps_asg (pv 1) (pg_any rfl (pgs_cons (pg_name (i := 2) nd rfl (by first | exact Or.inl rfl | exact Or.inr rfl)) (pgs_cons (pg_name (i := 3) nd rfl (by first | exact Or.inl rfl | exact Or.inr rfl)) (pgs_cons (pg_name (i := 4) nd rfl (by first | exact Or.inl rfl | exact Or.inr rfl)) pgs_nil)))))
    (pss_cons (ps_if (pt_cmpR (op_eqD hr.units) (pv 0) pe_int (nomark _)) (pss_one (ps_ret (pe_and (pe_cmpR (op_eqD hr.units) (pe_tup (pa_cons (pv 2) (pa_cons (pv 3) pa_nil))) (pe_tup (pa_cons pe_int (pa_cons pe_int pa_nil))) (nomark _)) (pe_one (pe_chain (op_leA hr.units0) (op_leA hr.units0) pe_int (pv 4) (pe_glob rfl g_MOST_TEETH ⟨_, rfl⟩)))))) pss_nil)
    (pss_one (ps_ret (pe_and (pe_chain (op_leA hr.units0) op_lt pe_int (pv 2) (pv 0)) (pe_and (pe_chain (op_leA hr.units0) (op_leA hr.units0) (pe_glob rfl g_LEAST_TEETH ⟨_, rfl⟩) (pv 3) (pe_glob rfl g_MOST_TEETH ⟨_, rfl⟩)) (pe_one (pe_chain (op_leA hr.units0) (op_leA hr.units0) (pe_glob rfl g_LEAST_TEETH ⟨_, rfl⟩) (pv 4) (pe_glob rfl g_MOST_TEETH ⟨_, rfl⟩)))))))))
theorem sc_need_works : FnScope n_need_works (["works"] : List Str) (defScope s_need_works) := ⟨rfl, rfl, rfl, by decide +kernel, rfl, by decide +kernel, by decide +kernel⟩
theorem ok_need_works {t_MOST_ARBORS : Tok} {f : Addr} {fd : FuncData} (F : FunD K "need_works" "need_works" (defArgs s_need_works) (defBody s_need_works) (defScope s_need_works) [] [] f fd) (g_MOST_ARBORS : mg "MOST_ARBORS" = some (.int 8 t_MOST_ARBORS)) (z_len : mg "len" = none) (z_enumerate : mg "enumerate" = none) (h_is_arbor : Has P w K mg base 1 "is_arbor" (["number", "arbor"] : List Str) [] (spP K mg 2 f_is_arbor)) : FnOk P w K mg base (L2.CX P w) 2 f fd (["works"] : List Str) (spP K mg 1 f_need_works) := by
  have nd := sc_need_works.nd
  refine FunD.ok F sc_need_works (fun vs H Q E h => h.1) (fun cdv A outer s H vs Q E hr h => ?_)
  have ss : SoundS (⟨WU K, mg, fun C d _ H => E C d H⟩ : Ctx K) _ b_need_works := (ss_seq (ss_if (so_not (so_tst (so_chain sr_le sr_le (so_c fun _ => .int _) (so_b sb_len (so_cons (so_var 0) so_nil)) (so_c fun _ => .int _)))) ss_never ss_next)
    (ss_for (si_enum (so_var 0)) (sg_any rfl (sg_cons (sg_name 1) (sg_cons (sg_name 2) sg_nil))) (ss_if (so_not (so_tB (so_callP rfl (fun ds h => runD_no ds h) (so_cons (so_var 1) (so_cons (so_var 2) so_nil))))) ss_never ss_next)))
  refine ⟨_, ?_, body_ok (N := n_need_works) (k := 1) (fun _ _ _ _ z => z) ss h⟩
  exact (pss_cons (ps_if (pt_not (pt_chain (op_leA hr.units0) (op_leA hr.units0) pe_int (pe_callB call_len (by rfl) z_len (by decide +kernel) (pa_cons (pv 0) pa_nil)) (pe_glob rfl g_MOST_ARBORS ⟨_, rfl⟩))) (pss_one ps_never) pss_nil)
    (pss_one (ps_for (passes_of rfl) rfl (pi_enumK (by rfl) z_enumerate (pa_cons (pv 0) pa_nil)) (pg_any rfl (pgs_cons (pg_name (i := 1) nd rfl (by first | exact Or.inl rfl | exact Or.inr rfl)) (pgs_cons (pg_name (i := 2) nd rfl (by first | exact Or.inl rfl | exact Or.inr rfl)) pgs_nil))) (pss_one (ps_if (pt_not (pt_val (pe_callH h_is_arbor hr (by decide) (takes_of rfl rfl rfl rfl) rfl (pa_cons (pv 1) (pa_cons (pv 2) pa_nil))))) (pss_one ps_never) pss_nil)))))
theorem sc_is_name : FnScope n_is_name (["name"] : List Str) (defScope s_is_name) := ⟨rfl, rfl, rfl, by decide +kernel, rfl, by decide +kernel, by decide +kernel⟩
theorem ok_is_name {t_MOST_NAME : Tok} {t_LETTERS : Tok} {f : Addr} {fd : FuncData} (F : FunD K "is_name" "is_name" (defArgs s_is_name) (defBody s_is_name) (defScope s_is_name) [] [] f fd) (g_MOST_NAME : mg "MOST_NAME" = some (.int 8 t_MOST_NAME)) (g_LETTERS : mg "LETTERS" = some (.str "abcdefghijklmnopqrstuvwxyz" t_LETTERS)) (z_len : mg "len" = none) : FnOk P w K mg base (L2.CX P w) 1 f fd (["name"] : List Str) (spP K mg 1 f_is_name) := by
  have nd := sc_is_name.nd
  refine FunD.ok F sc_is_name (fun vs H Q E h => h.1) (fun cdv A outer s H vs Q E hr h => ?_)
  have ss : SoundS (⟨WU K, mg, fun C d _ H => E C d H⟩ : Ctx K) _ b_is_name := (ss_ret (so_andV (so_chain sr_le sr_le (so_c fun _ => .int _) (so_b sb_len (so_cons (so_var 0) so_nil)) (so_c fun _ => .int _)) (so_op sr_eq (so_lc (si_str (so_var 0)) (sg_name 1) (by decide) (so_tst (so_op sr_notIn (so_var 1) (so_c fun _ => .str _))) (so_var 1)) (so_lst so_nil))))
  refine ⟨_, ?_, body_ok (N := n_is_name) (k := 1) (fun _ _ _ _ z => z) ss h⟩
  exact (pss_one (ps_ret (pe_and (pe_chain (op_leA hr.units0) (op_leA hr.units0) pe_int (pe_callB call_len (by rfl) z_len (by decide +kernel) (pa_cons (pv 0) pa_nil)) (pe_glob rfl g_MOST_NAME ⟨_, rfl⟩)) (pe_one (pe_cmpR (op_eqD hr.units) (pe_lc (own := [("sign", 1)]) rfl nd (pi_str (pv 0)) (blkOk_by (own := [("sign", 1)]) (N := n_is_name) (sc := defScope s_is_name) (by decide +kernel)) (fun _ _ _ _ _ => (pg_name (i := 1) nd rfl (by first | exact Or.inl rfl | exact Or.inr rfl))) (fun _ _ _ _ _ => (pts_one (pt_cmpR (op_notInA (un65 hr)) (pv 1) (pe_glob rfl g_LETTERS ⟨_, rfl⟩) (by rfl)))) (fun _ _ _ _ _ => (pv 1))) (pe_lst pa_nil) (nomark _))))))
theorem sc_need_hands : FnScope n_need_hands (["works", "hands"] : List Str) (defScope s_need_hands) := ⟨rfl, rfl, rfl, by decide +kernel, rfl, by decide +kernel, by decide +kernel⟩
theorem ok_need_hands {t_MOST_HANDS : Tok} {t_MOST_MARKS : Tok} {f : Addr} {fd : FuncData} (F : FunD K "need_hands" "need_hands" (defArgs s_need_hands) (defBody s_need_hands) (defScope s_need_hands) [] [] f fd) (g_MOST_HANDS : mg "MOST_HANDS" = some (.int 8 t_MOST_HANDS)) (g_MOST_MARKS : mg "MOST_MARKS" = some (.int 60 t_MOST_MARKS)) (z_enumerate : mg "enumerate" = none) (z_len : mg "len" = none) (h_is_name : Has P w K mg base 1 "is_name" (["name"] : List Str) [] (spP K mg 1 f_is_name)) : FnOk P w K mg base (L2.CX P w) 2 f fd (["works", "hands"] : List Str) (spP K mg 2 f_need_hands) := by
  have nd := sc_need_hands.nd
  refine FunD.ok F sc_need_hands (fun vs H Q E h => h.1) (fun cdv A outer s H vs Q E hr h => ?_)
  have ss : SoundS (⟨WU K, mg, fun C d _ H => E C d H⟩ : Ctx K) _ b_need_hands := (ss_for (si_enum (so_var 1)) (sg_any rfl (sg_cons (sg_name 2) (sg_cons (sg_any rfl (sg_cons (sg_name 3) (sg_cons (sg_name 4) (sg_cons (sg_name 5) sg_nil)))) sg_nil))) (ss_seq (ss_if (so_or (so_tst (so_op sr_eq (so_var 2) (so_c fun _ => .int _))) (so_or (so_not (so_tB (so_callP rfl (fun ds h => runD_no ds h) (so_cons (so_var 3) so_nil)))) (so_tst (so_op sr_in (so_var 3) (so_lc (si_seq (so_sl ssl_any (so_var 1) so_noPart (so_part (so_var 2)))) (sg_name 6) (by decide) so_yes (so_op sr_ix (so_var 6) (so_c fun _ => .int _))))))) ss_never ss_next)
    (ss_if (so_or (so_not (so_tst (so_chain sr_le sr_lt (so_c fun _ => .int _) (so_var 4) (so_b sb_len (so_cons (so_var 0) so_nil))))) (so_not (so_tst (so_chain sr_le sr_le (so_c fun _ => .int _) (so_var 5) (so_c fun _ => .int _))))) ss_never ss_next)))
  refine ⟨_, ?_, body_ok (N := n_need_hands) (k := 2) (fun _ _ _ _ z => z) ss h⟩
  exact (pss_one (ps_for (passes_of rfl) rfl (pi_enumK (by rfl) z_enumerate (pa_cons (pv 1) pa_nil)) (pg_any rfl (pgs_cons (pg_name (i := 2) nd rfl (by first | exact Or.inl rfl | exact Or.inr rfl)) (pgs_cons (pg_any rfl (pgs_cons (pg_name (i := 3) nd rfl (by first | exact Or.inl rfl | exact Or.inr rfl)) (pgs_cons (pg_name (i := 4) nd rfl (by first | exact Or.inl rfl | exact Or.inr rfl)) (pgs_cons (pg_name (i := 5) nd rfl (by first | exact Or.inl rfl | exact Or.inr rfl)) pgs_nil)))) pgs_nil))) (pss_cons (ps_if (PW.pt (pw_or (pt_cmpR (op_eqD hr.units) (pv 2) (pe_glob rfl g_MOST_HANDS ⟨_, rfl⟩) (nomark _)) (pw_or (pt_not (pt_val (pe_callH h_is_name hr (by decide) (takes_of rfl rfl rfl rfl) rfl (pa_cons (pv 3) pa_nil)))) (pw_or1 (pt_cmpR (op_inA (un65 hr)) (pv 3) (pe_lc (own := [("hand", 6)]) rfl nd (pi_any (pe_slice sl_any (pv 1) po_none (po_some (pv 2)))) (blkOk_by (own := [("hand", 6)]) (N := n_need_hands) (sc := defScope s_need_hands) (by decide +kernel)) (fun _ _ _ _ _ => (pg_name (i := 6) nd rfl (by first | exact Or.inl rfl | exact Or.inr rfl))) (fun _ _ _ _ _ => pts_nil) (fun _ _ _ _ _ => (pe_ix ix_seq (pv 6) pe_int (fun _ _ => rfl)))) (by rfl)))))) (pss_one ps_never) pss_nil)
    (pss_one (ps_if (PW.pt (pw_or (pt_not (pt_chain (op_leA hr.units0) op_lt pe_int (pv 4) (pe_callB call_len (by rfl) z_len (by decide +kernel) (pa_cons (pv 0) pa_nil)))) (pw_or1 (pt_not (pt_chain (op_leA hr.units0) (op_leA hr.units0) pe_int (pv 5) (pe_glob rfl g_MOST_MARKS ⟨_, rfl⟩)))))) (pss_one ps_never) pss_nil)))))
theorem sc_BadSeen___init__ : FnScope n_BadSeen___init__ (["self", "at"] : List Str) (defScope s_BadSeen___init__) := ⟨rfl, rfl, rfl, by decide +kernel, rfl, by decide +kernel, by decide +kernel⟩
theorem ok_BadSeen___init__ {f C WEa : Addr} {fd : FuncData} (F : FunD K "__init__" "BadSeen.__init__" (defArgs s_BadSeen___init__) (defBody s_BadSeen___init__) (defScope s_BadSeen___init__) [] [] f fd) (e_WorksError : mg "WorksError" = some (.ref WEa)) (ib : initB K WEa = true) (T : OexC K C) (hno : PySem.W.findIn K (.ref C) "at" = some none) : FnOk P w K mg base (L2.CX P w) 1 f fd (["self", "at"] : List Str) (spInit C "at") := by
  have nd := sc_BadSeen___init__.nd
  refine FunD.ok F sc_BadSeen___init__ (fun vs H Q E h => spInit_len h) (fun cdv A outer s H vs Q E hr h => ?_)
  exact init_ps T hno (ps_expr (pe_weinit rfl e_WorksError ib (pa_cons (pv 0) (pa_cons pe_str pa_nil)))) (ps_ost (pv 0) (pv 1)) h
theorem okH_BadSeen___init__ {f C WEa : Addr} {fd : FuncData} (F : FunD K "__init__" "BadSeen.__init__" (defArgs s_BadSeen___init__) (defBody s_BadSeen___init__) (defScope s_BadSeen___init__) [] [] f fd) (e_WorksError : mg "WorksError" = some (.ref WEa)) (ib : initB K WEa = true) (T : OexC K C) (hno : PySem.W.findIn K (.ref C) "at" = some none) : L2H.FnH P w K mg base (L2.CX P w) 1 f fd (["self", "at"] : List Str) (spInit C "at") := by
  have nd := sc_BadSeen___init__.nd
  refine FunD.okH F sc_BadSeen___init__ (fun vs H Q E h => spInit_len h) (fun cdv A outer s H vs Q E p hot hr h => ?_)
  exact init_ps T hno (ps_expr (pe_weinit rfl e_WorksError ib (pa_cons (pv 0) (pa_cons pe_str pa_nil)))) (ps_ost (pv 0) (pv 1)) h
theorem sc_need_beats : FnScope n_need_beats (["beats", "most"] : List Str) (defScope s_need_beats) := ⟨rfl, rfl, rfl, by decide +kernel, rfl, by decide +kernel, by decide +kernel⟩
theorem ok_need_beats {e_BadBeats_ : Addr} {f : Addr} {fd : FuncData} (F : FunD K "need_beats" "need_beats" (defArgs s_need_beats) (defBody s_need_beats) (defScope s_need_beats) [.int 1000000] [] f fd) (e_BadBeats : mg "BadBeats" = some (.ref e_BadBeats_)) (p_BadBeats : plainB K e_BadBeats_ = true) : FnOk P w K mg base (L2.CX P w) 1 f fd (["beats", "most"] : List Str) (spP K mg 2 f_need_beats) := by
  have nd := sc_need_beats.nd
  refine FunD.ok F sc_need_beats (fun vs H Q E h => h.1) (fun cdv A outer s H vs Q E hr h => ?_)
  have ss : SoundS (⟨WU K, mg, fun C d _ H => E C d H⟩ : Ctx K) _ b_need_beats := (ss_if (so_not (so_tst (so_chain sr_le sr_le (so_c fun _ => .int _) (so_var 0) (so_var 1)))) (ss_raise e_BadBeats) ss_next)
  refine ⟨_, ?_, body_ok (N := n_need_beats) (k := 2) (fun _ _ _ _ z => z) ss h⟩
  exact (pss_one (ps_if (pt_not (pt_chain (op_leA hr.units0) (op_leA hr.units0) pe_int (pv 0) (pv 1))) (pss_one (ps_raiseP rfl (takes_of rfl rfl rfl rfl) e_BadBeats p_BadBeats rfl)) pss_nil))
theorem okN_need_beats {e_BadBeats_ : Addr} {f : Addr} {fd : FuncData} (F : FunD K "need_beats" "need_beats" (defArgs s_need_beats) (defBody s_need_beats) (defScope s_need_beats) [.int 1000000] [] f fd) (e_BadBeats : mg "BadBeats" = some (.ref e_BadBeats_)) (p_BadBeats : plainB K e_BadBeats_ = true) : FnOk P w K mg base (L2N.CX P w) 1 f fd (["beats", "most"] : List Str) (spP K mg 2 f_need_beats) := by
  have nd := sc_need_beats.nd
  refine FunD.ok F sc_need_beats (fun vs H Q E h => h.1) (fun cdv A outer s H vs Q E hr h => ?_)
  have ss : SoundS (⟨WU K, mg, fun C d _ H => E C d H⟩ : Ctx K) _ b_need_beats := (ss_if (so_not (so_tst (so_chain sr_le sr_le (so_c fun _ => .int _) (so_var 0) (so_var 1)))) (ss_raise e_BadBeats) ss_next)
  refine ⟨_, ?_, body_ok (N := n_need_beats) (k := 2) (fun _ _ _ _ z => z) ss h⟩
  exact (pss_one (ps_if (pt_not (pt_chain (op_leA hr.units0) (op_leA hr.units0) pe_int (pv 0) (pv 1))) (pss_one (ps_raisePN rfl (L2N.takes_of rfl rfl rfl rfl) e_BadBeats p_BadBeats rfl)) pss_nil))
theorem sc_need_hand : FnScope n_need_hand (["hands", "number"] : List Str) (defScope s_need_hand) := ⟨rfl, rfl, rfl, by decide +kernel, rfl, by decide +kernel, by decide +kernel⟩
theorem ok_need_hand {e_NoHand_ : Addr} {f : Addr} {fd : FuncData} (F : FunD K "need_hand" "need_hand" (defArgs s_need_hand) (defBody s_need_hand) (defScope s_need_hand) [] [] f fd) (z_len : mg "len" = none) (e_NoHand : mg "NoHand" = some (.ref e_NoHand_)) (p_NoHand : plainB K e_NoHand_ = true) : FnOk P w K mg base (L2.CX P w) 1 f fd (["hands", "number"] : List Str) (spP K mg 2 f_need_hand) := by
  have nd := sc_need_hand.nd
  refine FunD.ok F sc_need_hand (fun vs H Q E h => h.1) (fun cdv A outer s H vs Q E hr h => ?_)
  have ss : SoundS (⟨WU K, mg, fun C d _ H => E C d H⟩ : Ctx K) _ b_need_hand := (ss_if (so_not (so_tst (so_chain sr_le sr_lt (so_c fun _ => .int _) (so_var 1) (so_b sb_len (so_cons (so_var 0) so_nil))))) (ss_raise e_NoHand) ss_next)
  refine ⟨_, ?_, body_ok (N := n_need_hand) (k := 2) (fun _ _ _ _ z => z) ss h⟩
  exact (pss_one (ps_if (pt_not (pt_chain (op_leA hr.units0) op_lt pe_int (pv 1) (pe_callB call_len (by rfl) z_len (by decide +kernel) (pa_cons (pv 0) pa_nil)))) (pss_one (ps_raiseP rfl (takes_of rfl rfl rfl rfl) e_NoHand p_NoHand rfl)) pss_nil))
theorem okN_need_hand {e_NoHand_ : Addr} {f : Addr} {fd : FuncData} (F : FunD K "need_hand" "need_hand" (defArgs s_need_hand) (defBody s_need_hand) (defScope s_need_hand) [] [] f fd) (z_len : mg "len" = none) (e_NoHand : mg "NoHand" = some (.ref e_NoHand_)) (p_NoHand : plainB K e_NoHand_ = true) : FnOk P w K mg base (L2N.CX P w) 1 f fd (["hands", "number"] : List Str) (spP K mg 2 f_need_hand) := by
  have nd := sc_need_hand.nd
  refine FunD.ok F sc_need_hand (fun vs H Q E h => h.1) (fun cdv A outer s H vs Q E hr h => ?_)
  have ss : SoundS (⟨WU K, mg, fun C d _ H => E C d H⟩ : Ctx K) _ b_need_hand := (ss_if (so_not (so_tst (so_chain sr_le sr_lt (so_c fun _ => .int _) (so_var 1) (so_b sb_len (so_cons (so_var 0) so_nil))))) (ss_raise e_NoHand) ss_next)
  refine ⟨_, ?_, body_ok (N := n_need_hand) (k := 2) (fun _ _ _ _ z => z) ss h⟩
  exact (pss_one (ps_if (pt_not (pt_chain (op_leA hr.units0) op_lt pe_int (pv 1) (pe_callB call_len (by rfl) z_len (by decide +kernel) (pa_cons (pv 0) pa_nil)))) (pss_one (ps_raisePN rfl (L2N.takes_of rfl rfl rfl rfl) e_NoHand p_NoHand rfl)) pss_nil))
theorem sc_need_seen : FnScope n_need_seen (["hands", "seen"] : List Str) (defScope s_need_seen) := ⟨rfl, rfl, rfl, by decide +kernel, rfl, by decide +kernel, by decide +kernel⟩
theorem ok_need_seen {f : Addr} {fd : FuncData} (F : FunD K "need_seen" "need_seen" (defArgs s_need_seen) (defBody s_need_seen) (defScope s_need_seen) [] [] f fd) (z_enumerate : mg "enumerate" = none) {e_BadSeen_ : Addr} (e_BadSeen : mg "BadSeen" = some (.ref e_BadSeen_)) {e_BadBeats_ : Addr} (e_BadBeats : mg "BadBeats" = some (.ref e_BadBeats_)) {e_WorksError_ : Addr} (e_WorksError : mg "WorksError" = some (.ref e_WorksError_)) {e_NoHand_ : Addr} (e_NoHand : mg "NoHand" = some (.ref e_NoHand_)) (xt_BadBeats_WorksError : PySem.W.exmOne K (.ref e_BadBeats_) (.ref e_WorksError_) = some true) (sb_BadBeats : PySem.W.subIn K (.ref e_BadBeats_) (.type "BaseException") = some true) (xt_NoHand_WorksError : PySem.W.exmOne K (.ref e_NoHand_) (.ref e_WorksError_) = some true) (sb_NoHand : PySem.W.subIn K (.ref e_NoHand_) (.type "BaseException") = some true) (h_BadSeen___init___ih : HasIH P w K mg base 1 e_BadSeen_ "at") (h_need_beats_n1 : HasN P w K mg base 1 "need_beats" (["beats", "most"] : List Str) [.int 1000000] (spP K mg 2 f_need_beats)) (h_need_hand_n0 : HasN P w K mg base 1 "need_hand" (["hands", "number"] : List Str) [] (spP K mg 2 f_need_hand)) (h_BadSeen___init___i : HasI P w K mg base 1 e_BadSeen_ "at") : FnOk P w K mg base (L2.CX P w) 3 f fd (["hands", "seen"] : List Str) (spP K mg 2 f_need_seen) := by
  have nd := sc_need_seen.nd
  refine FunD.ok F sc_need_seen (fun vs H Q E h => h.1) (fun cdv A outer s H vs Q E hr h => ?_)
  have ss : SoundS (⟨WU K, mg, fun C d _ H => E C d H⟩ : Ctx K) _ b_need_seen := (ss_for (si_enum (so_var 1)) (sg_any rfl (sg_cons (sg_name 2) (sg_cons (sg_any rfl (sg_cons (sg_name 3) (sg_cons (sg_name 4) (sg_cons (sg_name 5) sg_nil)))) sg_nil))) (ss_seq (ss_tryR (fl := "at") (cv := .ref e_WorksError_) (ns := ["BadBeats", "NoHand"]) (fun _ => (ss_seq (ss_drop (so_callPD (dd := [.int 1000000]) (fun _ => .cons (.int _) .nil) rfl (fun ds h => runD_no ds h) (so_cons (so_var 3) so_nil)))
    (ss_drop (so_callP rfl (fun ds h => runD_no ds h) (so_cons (so_var 0) (so_cons (so_var 4) so_nil)))))) (so_var 2) (fun n hn p hp => by have hp : mg n = some (.ref p) := hp; simp only [List.mem_cons, List.not_mem_nil, or_false] at hn; rcases hn with rfl | rfl; all_goals first | (rw [e_BadBeats] at hp; cases hp; exact ⟨xt_BadBeats_WorksError, sb_BadBeats⟩) | (rw [e_NoHand] at hp; cases hp; exact ⟨xt_NoHand_WorksError, sb_NoHand⟩)) e_BadSeen (by decide))
    (ss_if (so_not (so_tst (so_chain sr_le sr_lt (so_c fun _ => .int _) (so_var 5) (so_op sr_ix (so_op sr_ix (so_var 0) (so_var 4)) (so_c fun _ => .int _))))) (ss_raiseA (fl := "at") e_BadSeen (by decide) (so_var 2)) ss_next)))
  refine ⟨_, ?_, body_ok (N := n_need_seen) (k := 2) (fun _ _ _ _ z => z) ss h⟩
  exact (pss_one (ps_for (passes_of rfl) rfl (pi_enumK (by rfl) z_enumerate (pa_cons (pv 1) pa_nil)) (pg_any rfl (pgs_cons (pg_name (i := 2) nd rfl (by first | exact Or.inl rfl | exact Or.inr rfl)) (pgs_cons (pg_any rfl (pgs_cons (pg_name (i := 3) nd rfl (by first | exact Or.inl rfl | exact Or.inr rfl)) (pgs_cons (pg_name (i := 4) nd rfl (by first | exact Or.inl rfl | exact Or.inr rfl)) (pgs_cons (pg_name (i := 5) nd rfl (by first | exact Or.inl rfl | exact Or.inr rfl)) pgs_nil)))) pgs_nil))) (pss_cons (ps_tryR rfl rfl nd rfl rfl ⟨rfl, by decide, .inl e_WorksError⟩ (takes_of rfl rfl rfl rfl) (fun W pn xe tkb hpo => (pss_cons (ps_expr (pe_callHN h_need_beats_n1 hr (by decide) tkb rfl (pa_cons (pv 3) pa_nil)))
    (pss_one (ps_expr (pe_callHN h_need_hand_n0 hr (by decide) tkb rfl (pa_cons (pv 0) (pa_cons (pv 4) pa_nil))))))) h_BadSeen___init___ih hr (by decide) rfl e_BadSeen (fun a pn xe => (pv 2)))
    (pss_one (ps_if (pt_not (pt_chain (op_leA hr.units0) op_lt pe_int (pv 5) (pe_ix ix_seq (pe_ix ix_seq (pv 0) (pv 4) (fun _ _ => rfl)) pe_int (fun _ _ => rfl)))) (pss_one (ps_raiseA rfl (takes_of rfl rfl rfl rfl) h_BadSeen___init___i hr (by decide) rfl e_BadSeen (pv 2))) pss_nil)))))
theorem sc_all_single : FnScope n_all_single (["works"] : List Str) (defScope s_all_single) := ⟨rfl, rfl, rfl, by decide +kernel, rfl, by decide +kernel, by decide +kernel⟩
theorem ok_all_single {f : Addr} {fd : FuncData} (F : FunD K "all_single" "all_single" (defArgs s_all_single) (defBody s_all_single) (defScope s_all_single) [] [] f fd) (z_range : mg "range" = none) (z_len : mg "len" = none) : FnOk P w K mg base (L2.CX P w) 1 f fd (["works"] : List Str) (spP K mg 1 f_all_single) := by
  have nd := sc_all_single.nd
  refine FunD.ok F sc_all_single (fun vs H Q E h => h.1) (fun cdv A outer s H vs Q E hr h => ?_)
  have ss : SoundS (⟨WU K, mg, fun C d _ H => E C d H⟩ : Ctx K) _ b_all_single := (ss_seq (ss_asg (so_lst (so_cons (so_tup so_nil) so_nil)) (sg_name 1))
    (ss_seq (ss_for (si_rng2 (so_c fun _ => .int _) (so_b sb_len (so_cons (so_var 0) so_nil))) (sg_name 2) (ss_ext (so_lc (si_rng1 (so_op sr_ix (so_op sr_ix (so_var 0) (so_var 2)) (so_c fun _ => .int _))) (sg_name 3) (by decide) so_yes (so_tup (so_cons (so_tup (so_cons (so_var 2) (so_cons (so_var 3) so_nil))) so_nil)))))
    (ss_retV 1)))
  refine ⟨_, ?_, body_ok (N := n_all_single) (k := 1) (fun _ _ _ _ z => z) ss h⟩
  exact (pss_cons (ps_set (i := 1) nd rfl (by first | exact Or.inl rfl | exact Or.inr rfl) (pe_lst (pa_cons (pe_tup pa_nil) pa_nil)))
    (pss_cons (ps_for (passes_of rfl) rfl (pi_range2 (by rfl) z_range (pa_cons pe_int (pa_cons (pe_callB call_len (by rfl) z_len (by decide +kernel) (pa_cons (pv 0) pa_nil)) pa_nil))) (pg_name (i := 2) nd rfl (by first | exact Or.inl rfl | exact Or.inr rfl)) (pss_one (ps_expr (pe_bm PySem.F.plainAttrs_list PySem.F.slot_list_extend PySem.F.type_list_extend mt_extend (pv 1) (pa_cons (pe_lc (own := [("tooth", 3)]) rfl nd (pi_range1 (by rfl) z_range (pa_cons (pe_ix ix_seq (pe_ix ix_seq (pv 0) (pv 2) (fun _ _ => rfl)) pe_int (fun _ _ => rfl)) pa_nil)) (blkOk_by (own := [("tooth", 3)]) (N := n_all_single) (sc := defScope s_all_single) (by decide +kernel)) (fun _ _ _ _ _ => (pg_name (i := 3) nd rfl (by first | exact Or.inl rfl | exact Or.inr rfl))) (fun _ _ _ _ _ => pts_nil) (fun _ _ _ _ _ => (pe_tup (pa_cons (pe_tup (pa_cons (pv 2) (pa_cons (pv 3) pa_nil))) pa_nil)))) pa_nil)))))
    (pss_one (ps_ret (pv 1)))))
theorem sc_mark_of : FnScope n_mark_of (["works", "hand", "made"] : List Str) (defScope s_mark_of) := ⟨rfl, rfl, rfl, by decide +kernel, rfl, by decide +kernel, by decide +kernel⟩
theorem ok_mark_of {f : Addr} {fd : FuncData} (F : FunD K "mark_of" "mark_of" (defArgs s_mark_of) (defBody s_mark_of) (defScope s_mark_of) [] [] f fd) : FnOk P w K mg base (L2.CX P w) 1 f fd (["works", "hand", "made"] : List Str) (spP K mg 3 f_mark_of) := by
  have nd := sc_mark_of.nd
  refine FunD.ok F sc_mark_of (fun vs H Q E h => h.1) (fun cdv A outer s H vs Q E hr h => ?_)
  have ss : SoundS (⟨WU K, mg, fun C d _ H => E C d H⟩ : Ctx K) _ b_mark_of := (ss_seq (ss_asg (so_var 1) (sg_any rfl (sg_cons (sg_name 3) (sg_cons (sg_name 4) (sg_cons (sg_name 5) sg_nil)))))
    (ss_ret (so_op sr_mod (so_op sr_div (so_op sr_mul (so_var 2) (so_var 5)) (so_op sr_ix (so_op sr_ix (so_var 0) (so_var 4)) (so_c fun _ => .int _))) (so_var 5))))
  refine ⟨_, ?_, body_ok (N := n_mark_of) (k := 3) (fun _ _ _ _ z => z) ss h⟩
  exact (pss_cons (ps_asg (pv 1) (pg_any rfl (pgs_cons (pg_name (i := 3) nd rfl (by first | exact Or.inl rfl | exact Or.inr rfl)) (pgs_cons (pg_name (i := 4) nd rfl (by first | exact Or.inl rfl | exact Or.inr rfl)) (pgs_cons (pg_name (i := 5) nd rfl (by first | exact Or.inl rfl | exact Or.inr rfl)) pgs_nil)))))
    (pss_one (ps_ret (pe_op op_mod (pe_op op_fdivW (pe_op op_mulA (pv 2) (pv 5)) (pe_ix ix_seq (pe_ix ix_seq (pv 0) (pv 4) (fun _ _ => rfl)) pe_int (fun _ _ => rfl))) (pv 5)))))
theorem sc_marks_of : FnScope n_marks_of (["works", "hands", "made"] : List Str) (defScope s_marks_of) := ⟨rfl, rfl, rfl, by decide +kernel, rfl, by decide +kernel, by decide +kernel⟩
theorem ok_marks_of {f : Addr} {fd : FuncData} (F : FunD K "marks_of" "marks_of" (defArgs s_marks_of) (defBody s_marks_of) (defScope s_marks_of) [] [] f fd) (h_mark_of : Has P w K mg base 1 "mark_of" (["works", "hand", "made"] : List Str) [] (spP K mg 3 f_mark_of)) : FnOk P w K mg base (L2.CX P w) 2 f fd (["works", "hands", "made"] : List Str) (spP K mg 3 f_marks_of) := by
  have nd := sc_marks_of.nd
  refine FunD.ok F sc_marks_of (fun vs H Q E h => h.1) (fun cdv A outer s H vs Q E hr h => ?_)
  have ss : SoundS (⟨WU K, mg, fun C d _ H => E C d H⟩ : Ctx K) _ b_marks_of := (ss_ret (so_lc (si_seq (so_var 1)) (sg_name 3) (by decide) so_yes (so_callP rfl (fun ds h => runD_no ds h) (so_cons (so_var 0) (so_cons (so_var 3) (so_cons (so_op sr_ix (so_var 2) (so_op sr_ix (so_var 3) (so_c fun _ => .int _))) so_nil))))))
  refine ⟨_, ?_, body_ok (N := n_marks_of) (k := 3) (fun _ _ _ _ z => z) ss h⟩
  exact (pss_one (ps_ret (pe_lc (own := [("hand", 3)]) rfl nd (pi_any (pv 1)) (blkOk_by (own := [("hand", 3)]) (N := n_marks_of) (sc := defScope s_marks_of) (by decide +kernel)) (fun _ _ _ _ _ => (pg_name (i := 3) nd rfl (by first | exact Or.inl rfl | exact Or.inr rfl))) (fun _ _ _ _ _ => pts_nil) (fun _ _ _ _ _ => (pe_callH h_mark_of hr (by decide) takes0 rfl (pa_cons (pv 0) (pa_cons (pv 3) (pa_cons (pe_ix ix_seq (pv 2) (pe_ix ix_seq (pv 3) pe_int (fun _ _ => rfl)) (fun _ _ => rfl)) pa_nil))))))))
theorem sc_passed : FnScope n_passed (["works", "arbor", "made"] : List Str) (defScope s_passed) := ⟨rfl, rfl, rfl, by decide +kernel, rfl, by decide +kernel, by decide +kernel⟩
theorem ok_passed {f : Addr} {fd : FuncData} (F : FunD K "passed" "passed" (defArgs s_passed) (defBody s_passed) (defScope s_passed) [] [] f fd) : FnOk P w K mg base (L2.CX P w) 1 f fd (["works", "arbor", "made"] : List Str) (spP K mg 3 f_passed) := by
  have nd := sc_passed.nd
  refine FunD.ok F sc_passed (fun vs H Q E h => h.1) (fun cdv A outer s H vs Q E hr h => ?_)
  have ss : SoundS (⟨WU K, mg, fun C d _ H => E C d H⟩ : Ctx K) _ b_passed := (ss_seq (ss_asg (so_op sr_ix (so_var 0) (so_var 1)) (sg_any rfl (sg_cons (sg_name 3) (sg_cons (sg_name 4) (sg_cons (sg_name 5) sg_nil)))))
    (ss_ret (so_op sr_div (so_op sr_mul (so_var 2) (so_var 4)) (so_op sr_ix (so_op sr_ix (so_var 0) (so_var 3)) (so_c fun _ => .int _)))))
  refine ⟨_, ?_, body_ok (N := n_passed) (k := 3) (fun _ _ _ _ z => z) ss h⟩
  exact (pss_cons (ps_asg (pe_ix ix_seq (pv 0) (pv 1) (fun _ _ => rfl)) (pg_any rfl (pgs_cons (pg_name (i := 3) nd rfl (by first | exact Or.inl rfl | exact Or.inr rfl)) (pgs_cons (pg_name (i := 4) nd rfl (by first | exact Or.inl rfl | exact Or.inr rfl)) (pgs_cons (pg_name (i := 5) nd rfl (by first | exact Or.inl rfl | exact Or.inr rfl)) pgs_nil)))))
    (pss_one (ps_ret (pe_op op_fdivW (pe_op op_mulA (pv 2) (pv 4)) (pe_ix ix_seq (pe_ix ix_seq (pv 0) (pv 3) (fun _ _ => rfl)) pe_int (fun _ _ => rfl))))))
theorem sc_missed : FnScope n_missed (["teeth", "drives", "begin", "end"] : List Str) (defScope s_missed) := ⟨rfl, rfl, rfl, by decide +kernel, rfl, by decide +kernel, by decide +kernel⟩
theorem ok_missed {f : Addr} {fd : FuncData} (F : FunD K "missed" "missed" (defArgs s_missed) (defBody s_missed) (defScope s_missed) [] [] f fd) (z_sum : mg "sum" = none) : FnOk P w K mg base (L2.CX P w) 1 f fd (["teeth", "drives", "begin", "end"] : List Str) (spP K mg 4 f_missed) := by
  have nd := sc_missed.nd
  refine FunD.ok F sc_missed (fun vs H Q E h => h.1) (fun cdv A outer s H vs Q E hr h => ?_)
  have ss : SoundS (⟨WU K, mg, fun C d _ H => E C d H⟩ : Ctx K) _ b_missed := (ss_ret (so_b sb_sumA (so_cons (so_lc (si_seq (so_var 0)) (sg_name 4) (by decide) so_yes (so_op sr_sub (so_op sr_div (so_op sr_sub (so_op sr_sub (so_op sr_add (so_var 3) (so_var 1)) (so_c fun _ => .int _)) (so_var 4)) (so_var 1)) (so_op sr_div (so_op sr_sub (so_op sr_sub (so_op sr_add (so_var 2) (so_var 1)) (so_c fun _ => .int _)) (so_var 4)) (so_var 1)))) so_nil)))
  refine ⟨_, ?_, body_ok (N := n_missed) (k := 4) (fun _ _ _ _ z => z) ss h⟩
  exact (pss_one (ps_ret (pe_callB (cr_sumA rfl) (by rfl) z_sum (by decide +kernel) (pa_cons (pe_lc (own := [("tooth", 4)]) rfl nd (pi_any (pv 0)) (blkOk_by (own := [("tooth", 4)]) (N := n_missed) (sc := defScope s_missed) (by decide +kernel)) (fun _ _ _ _ _ => (pg_name (i := 4) nd rfl (by first | exact Or.inl rfl | exact Or.inr rfl))) (fun _ _ _ _ _ => pts_nil) (fun _ _ _ _ _ => (pe_op op_sub (pe_op op_fdivW (pe_op op_sub (pe_op op_sub (pe_op op_addA (pv 3) (pv 1)) pe_int) (pv 4)) (pv 1)) (pe_op op_fdivW (pe_op op_sub (pe_op op_sub (pe_op op_addA (pv 2) (pv 1)) pe_int) (pv 4)) (pv 1))))) pa_nil))))
theorem sc_worn_steps_of : FnScope n_worn_steps_of (["works", "worn", "beats"] : List Str) (defScope s_worn_steps_of) := ⟨rfl, rfl, rfl, by decide +kernel, rfl, by decide +kernel, by decide +kernel⟩
theorem ok_worn_steps_of {f : Addr} {fd : FuncData} (F : FunD K "worn_steps_of" "worn_steps_of" (defArgs s_worn_steps_of) (defBody s_worn_steps_of) (defScope s_worn_steps_of) [] [] f fd) (z_range : mg "range" = none) (z_len : mg "len" = none) (h_passed : Has P w K mg base 1 "passed" (["works", "arbor", "made"] : List Str) [] (spP K mg 3 f_passed)) (h_missed : Has P w K mg base 1 "missed" (["teeth", "drives", "begin", "end"] : List Str) [] (spP K mg 4 f_missed)) : FnOk P w K mg base (L2.CX P w) 2 f fd (["works", "worn", "beats"] : List Str) (spP K mg 3 f_worn_steps_of) := by
  have nd := sc_worn_steps_of.nd
  refine FunD.ok F sc_worn_steps_of (fun vs H Q E h => h.1) (fun cdv A outer s H vs Q E hr h => ?_)
  have ss : SoundS (⟨WU K, mg, fun C d _ H => E C d H⟩ : Ctx K) _ b_worn_steps_of := (ss_seq (ss_asg (so_lst (so_cons (so_var 2) so_nil)) (sg_name 3))
    (ss_seq (ss_for (si_rng2 (so_c fun _ => .int _) (so_b sb_len (so_cons (so_var 0) so_nil))) (sg_name 4) (ss_seq (ss_asg (so_op sr_ix (so_var 0) (so_var 4)) (sg_any rfl (sg_cons (sg_name 5) (sg_cons (sg_name 6) (sg_cons (sg_name 7) sg_nil)))))
    (ss_seq (ss_asg (so_callP rfl (fun ds h => runD_no ds h) (so_cons (so_var 0) (so_cons (so_var 4) (so_cons (so_op sr_ix (so_var 3) (so_var 5)) so_nil)))) (sg_name 8))
    (ss_seq (ss_asg (so_lc (si_seq (so_var 1)) (sg_any rfl (sg_cons (sg_name 10) (sg_cons (sg_name 11) sg_nil))) (by decide) (so_tst (so_op sr_eq (so_var 10) (so_var 4))) (so_var 11)) (sg_name 9))
    (ss_frz [9] (ss_app (so_op sr_sub (so_var 8) (so_callP rfl (fun ds h => runD_no ds h) (so_cons (so_var 9) (so_cons (so_var 6) (so_cons (so_c fun _ => .int _) (so_cons (so_var 8) so_nil))))))))))))
    (ss_retV 3)))
  refine ⟨_, ?_, body_ok (N := n_worn_steps_of) (k := 3) (fun _ _ _ _ z => z) ss h⟩
  exact (pss_cons (ps_set (i := 3) nd rfl (by first | exact Or.inl rfl | exact Or.inr rfl) (pe_lst (pa_cons (pv 2) pa_nil)))
    (pss_cons (ps_for (passes_of rfl) rfl (pi_range2 (by rfl) z_range (pa_cons pe_int (pa_cons (pe_callB call_len (by rfl) z_len (by decide +kernel) (pa_cons (pv 0) pa_nil)) pa_nil))) (pg_name (i := 4) nd rfl (by first | exact Or.inl rfl | exact Or.inr rfl)) (pss_cons (ps_asg (pe_ix ix_seq (pv 0) (pv 4) (fun _ _ => rfl)) (pg_any rfl (pgs_cons (pg_name (i := 5) nd rfl (by first | exact Or.inl rfl | exact Or.inr rfl)) (pgs_cons (pg_name (i := 6) nd rfl (by first | exact Or.inl rfl | exact Or.inr rfl)) (pgs_cons (pg_name (i := 7) nd rfl (by first | exact Or.inl rfl | exact Or.inr rfl)) pgs_nil)))))
    (pss_cons (ps_set (i := 8) nd rfl (by first | exact Or.inl rfl | exact Or.inr rfl) (pe_callH h_passed hr (by decide) (takes_of rfl rfl rfl rfl) rfl (pa_cons (pv 0) (pa_cons (pv 4) (pa_cons (pe_ix ix_seq (pv 3) (pv 5) (fun _ _ => rfl)) pa_nil)))))
    (pss_cons (ps_setLc (i := 9) (own := [("one", 10), ("tooth", 11)]) rfl nd rfl rfl (sw_true rfl rfl rfl (by decide +kernel)) (pi_any (pv 1)) (blkOk_by (own := [("one", 10), ("tooth", 11)]) (N := n_worn_steps_of) (sc := defScope s_worn_steps_of) (by decide +kernel)) (fun _ _ _ _ _ => (pg_any rfl (pgs_cons (pg_name (i := 10) nd rfl (by first | exact Or.inl rfl | exact Or.inr rfl)) (pgs_cons (pg_name (i := 11) nd rfl (by first | exact Or.inl rfl | exact Or.inr rfl)) pgs_nil)))) (fun _ _ _ _ _ => (pts_one (pt_cmpR (op_eqD hr.units) (pv 10) (pv 4) (nomark _)))) (fun _ _ _ _ _ => (pv 11)))
    (pss_one (ps_expr (pe_bm PySem.F.plainAttrs_list PySem.F.slot_list_append PySem.F.type_list_append mt_append (pv 3) (pa_cons (pe_op op_sub (pv 8) (pe_callH h_missed hr (by decide) (takes_of rfl rfl rfl rfl) rfl (pa_cons (pv 9) (pa_cons (pv 6) (pa_cons pe_int (pa_cons (pv 8) pa_nil)))))) pa_nil))))))))
    (pss_one (ps_ret (pv 3)))))
theorem sc_fits : FnScope n_fits (["works", "hands", "worn", "seen"] : List Str) (defScope s_fits) := ⟨rfl, rfl, rfl, by decide +kernel, rfl, by decide +kernel, by decide +kernel⟩
theorem ok_fits {f : Addr} {fd : FuncData} (F : FunD K "fits" "fits" (defArgs s_fits) (defBody s_fits) (defScope s_fits) [] [] f fd) (h_worn_steps_of : Has P w K mg base 2 "worn_steps_of" (["works", "worn", "beats"] : List Str) [] (spP K mg 3 f_worn_steps_of)) (h_marks_of : Has P w K mg base 2 "marks_of" (["works", "hands", "made"] : List Str) [] (spP K mg 3 f_marks_of)) : FnOk P w K mg base (L2.CX P w) 3 f fd (["works", "hands", "worn", "seen"] : List Str) (spP K mg 4 f_fits) := by
  have nd := sc_fits.nd
  refine FunD.ok F sc_fits (fun vs H Q E h => h.1) (fun cdv A outer s H vs Q E hr h => ?_)
  have ss : SoundS (⟨WU K, mg, fun C d _ H => E C d H⟩ : Ctx K) _ b_fits := (ss_seq (ss_for (si_seq (so_var 3)) (sg_any rfl (sg_cons (sg_name 4) (sg_cons (sg_name 5) (sg_cons (sg_name 6) sg_nil)))) (ss_if (so_tst (so_op sr_ne (so_op sr_ix (so_callP rfl (fun ds h => runD_no ds h) (so_cons (so_var 0) (so_cons (so_var 1) (so_cons (so_callP rfl (fun ds h => runD_no ds h) (so_cons (so_var 0) (so_cons (so_var 2) (so_cons (so_var 4) so_nil)))) so_nil)))) (so_var 5)) (so_var 6))) (ss_ret (so_c fun _ => .bl _)) ss_next))
    (ss_ret (so_c fun _ => .bl _)))
  refine ⟨_, ?_, body_ok (N := n_fits) (k := 4) (fun _ _ _ _ z => z) ss h⟩
  exact (pss_cons (ps_for (passes_of rfl) rfl (pi_any (pv 3)) (pg_any rfl (pgs_cons (pg_name (i := 4) nd rfl (by first | exact Or.inl rfl | exact Or.inr rfl)) (pgs_cons (pg_name (i := 5) nd rfl (by first | exact Or.inl rfl | exact Or.inr rfl)) (pgs_cons (pg_name (i := 6) nd rfl (by first | exact Or.inl rfl | exact Or.inr rfl)) pgs_nil)))) (pss_one (ps_if (pt_cmpR (op_neD hr.units) (pe_ix ix_seq (pe_callH h_marks_of hr (by decide) (takes_of rfl rfl rfl rfl) rfl (pa_cons (pv 0) (pa_cons (pv 1) (pa_cons (pe_callH h_worn_steps_of hr (by decide) (takes_of rfl rfl rfl rfl) rfl (pa_cons (pv 0) (pa_cons (pv 2) (pa_cons (pv 4) pa_nil)))) pa_nil)))) (pv 5) (fun _ _ => rfl)) (pv 6) (nomark _)) (pss_one (ps_ret pe_bl)) pss_nil)))
    (pss_one (ps_ret pe_bl)))
theorem sc_suspects : FnScope n_suspects (["works", "hands", "seen"] : List Str) (defScope s_suspects) := ⟨rfl, rfl, rfl, by decide +kernel, rfl, by decide +kernel, by decide +kernel⟩
theorem ok_suspects {f : Addr} {fd : FuncData} (F : FunD K "suspects" "suspects" (defArgs s_suspects) (defBody s_suspects) (defScope s_suspects) [] [] f fd) (h_need_works : Has P w K mg base 2 "need_works" (["works"] : List Str) [] (spP K mg 1 f_need_works)) (h_need_hands : Has P w K mg base 2 "need_hands" (["works", "hands"] : List Str) [] (spP K mg 2 f_need_hands)) (h_need_seen : Has P w K mg base 3 "need_seen" (["hands", "seen"] : List Str) [] (spP K mg 2 f_need_seen)) (h_all_single : Has P w K mg base 1 "all_single" (["works"] : List Str) [] (spP K mg 1 f_all_single)) (h_fits : Has P w K mg base 3 "fits" (["works", "hands", "worn", "seen"] : List Str) [] (spP K mg 4 f_fits)) : FnOk P w K mg base (L2.CX P w) 4 f fd (["works", "hands", "seen"] : List Str) (spP K mg 3 f_suspects) := by
  have nd := sc_suspects.nd
  refine FunD.ok F sc_suspects (fun vs H Q E h => h.1) (fun cdv A outer s H vs Q E hr h => ?_)
  have ss : SoundS (⟨WU K, mg, fun C d _ H => E C d H⟩ : Ctx K) _ b_suspects := (ss_seq (ss_drop (so_callP rfl (fun ds h => runD_no ds h) (so_cons (so_var 0) so_nil)))
    (ss_seq (ss_drop (so_callP rfl (fun ds h => runD_no ds h) (so_cons (so_var 0) (so_cons (so_var 1) so_nil))))
    (ss_seq (ss_drop (so_callP rfl (fun ds h => runD_no ds h) (so_cons (so_var 1) (so_cons (so_var 2) so_nil))))
    (ss_ret (so_lc (si_seq (so_callP rfl (fun ds h => runD_no ds h) (so_cons (so_var 0) so_nil))) (sg_name 3) (by decide) (so_tB (so_callP rfl (fun ds h => runD_no ds h) (so_cons (so_var 0) (so_cons (so_var 1) (so_cons (so_var 3) (so_cons (so_var 2) so_nil)))))) (so_var 3))))))
  refine ⟨_, ?_, body_ok (N := n_suspects) (k := 3) (fun _ _ _ _ z => z) ss h⟩
  exact (pss_cons (ps_expr (pe_callH h_need_works hr (by decide) (takes_of rfl rfl rfl rfl) rfl (pa_cons (pv 0) pa_nil)))
    (pss_cons (ps_expr (pe_callH h_need_hands hr (by decide) (takes_of rfl rfl rfl rfl) rfl (pa_cons (pv 0) (pa_cons (pv 1) pa_nil))))
    (pss_cons (ps_expr (pe_callH h_need_seen hr (by decide) (takes_of rfl rfl rfl rfl) rfl (pa_cons (pv 1) (pa_cons (pv 2) pa_nil))))
    (pss_one (ps_ret (pe_lc (own := [("worn", 3)]) rfl nd (pi_any (pe_callH h_all_single hr (by decide) (takes_of rfl rfl rfl rfl) rfl (pa_cons (pv 0) pa_nil))) (blkOk_by (own := [("worn", 3)]) (N := n_suspects) (sc := defScope s_suspects) (by decide +kernel)) (fun _ _ _ _ _ => (pg_name (i := 3) nd rfl (by first | exact Or.inl rfl | exact Or.inr rfl))) (fun _ _ _ _ _ => (pts_one (pt_val (pe_callH h_fits hr (by decide) takes0 rfl (pa_cons (pv 0) (pa_cons (pv 1) (pa_cons (pv 3) (pa_cons (pv 2) pa_nil)))))))) (fun _ _ _ _ _ => (pv 3))))))))
theorem sc_law : FnScope n_law (["_law_script"] : List Str) (defScope s_law) := ⟨rfl, rfl, rfl, by decide +kernel, rfl, by decide +kernel, by decide +kernel⟩
theorem ok_law {f CL PL : Addr} {dV kV doc pm ct oc : Value} {an od : Option Addr} {osl : Array (Option Value)} (lk : K.lookup f = some ⟨oc, od, .func (PySem.W.fnOf "law" "law" (defArgs s_law) (defBody s_law) (defScope s_law) dV kV doc pm an (.ref CL) ct), osl⟩) (hcd : PySem.W.codeIn K (.ref CL) "law" = true) (B : LamX.TabB base mg CL PL) (z_range : mg "range" = none) (z_tuple : mg "tuple" = none) (z_len : mg "len" = none) (z_int : mg "int" = none) (h__law_dice : Has P w K mg base 1 "_law_dice" (["_law_script"] : List Str) [] (spT (WD K) mg 0 1 f__law_dice)) (h__law_works : Has P w K mg base 2 "_law_works" (["_law_d", "_law_upto", "_law_teeth"] : List Str) [] (spT (WD K) mg 1 3 f__law_works)) (h__law_next : Has P w K mg base 1 "_law_next" (["_law_dice_here", "_law_many"] : List Str) [] (spT (WD K) mg 1 2 f__law_next)) (h__law_worn : Has P w K mg base 2 "_law_worn" (["_law_d", "_law_works_here", "_law_upto"] : List Str) [] (spT (WD K) mg 1 3 f__law_worn)) (h__law_steps : Has P w K mg base 1 "_law_steps" (["_law_works_here", "_law_worn_here", "_law_count"] : List Str) [] (spP K mg 3 f__law_steps)) (h__law_marks : Has P w K mg base 1 "_law_marks" (["_law_works_here", "_law_hands", "_law_made"] : List Str) [] (spP K mg 3 f__law_marks)) (h__law_pick : Has P w K mg base 2 "_law_pick" (["_law_d", "_law_some"] : List Str) [] (spT (WD K) mg 1 2 f__law_pick)) (h__law_told_t : HasTA K mg "_law_told" ns_told na_told) (h_suspects : Has P w K mg base 4 "suspects" (["works", "hands", "seen"] : List Str) [] (spP K mg 3 f_suspects)) (h__law_like_3 : Has P w K mg base 4 "_law_like" (["_law_found", "_law_due"] : List Str) [] (spP K mg 2 f__law_like_3)) : FnOk P w K mg base CX0 7 f (PySem.W.fnOf "law" "law" (defArgs s_law) (defBody s_law) (defScope s_law) dV kV doc pm an (.ref CL) ct) (["_law_script"] : List Str) (spLawT K PL) := by
  have nd := sc_law.nd
  refine law_fnT lk hcd sc_law (fun A outer s H vs Q E hr h => ?_)
  have ss : SoundS (⟨WT (WD K) PL (("law" : Str) ++ ".<locals>." ++ "<lambda>"), mg, fun _ _ _ _ => False⟩ : Ctx K) _ b_law := (ss_seq (ss_asg (so_callT rfl (fun ds g h => runT_no ds g h) (so_cons (so_var 0) so_nil)) (sg_name 1))
    (ss_seq (ss_for (si_rng1 (so_c fun _ => .int _)) (sg_name 2) (ss_seq (ss_asg (so_callT rfl (fun ds g h => runT_no ds g h) (so_cons (so_var 1) (so_cons (so_c fun _ => .int _) (so_cons (so_c fun _ => .int _) so_nil)))) (sg_name 3))
    (ss_seq (ss_asg (so_b sb_tuple (so_cons (so_lc (si_rng1 (so_b sb_len (so_cons (so_var 3) so_nil))) (sg_name 5) (by decide) so_yes (so_tup (so_cons (so_op sr_add (so_c fun _ => .str _) (so_op sr_ix (so_c fun _ => .str _) (so_var 5))) (so_cons (so_var 5) (so_cons (so_op sr_add (so_c fun _ => .int _) (so_callT rfl (fun ds g h => runT_no ds g h) (so_cons (so_var 1) (so_cons (so_c fun _ => .int _) so_nil)))) so_nil))))) so_nil)) (sg_name 4))
    (ss_seq (ss_tup3 (so_cons (so_callT rfl (fun ds g h => runT_no ds g h) (so_cons (so_var 1) (so_cons (so_var 3) (so_cons (so_c fun _ => .int _) so_nil)))) (so_cons (so_lst so_nil) (so_cons (so_c fun _ => .non) so_nil))))
    (ss_seq (ss_for (si_rng1 (so_callT rfl (fun ds g h => runT_no ds g h) (so_cons (so_var 1) (so_cons (so_c fun _ => .int _) so_nil)))) (sg_name 5) (ss_seq (ss_par (so_cons (so_callT rfl (fun ds g h => runT_no ds g h) (so_cons (so_var 1) (so_cons (so_op sr_ix (so_lst (so_cons (so_c fun _ => .int _) (so_cons (so_c fun _ => .int _) so_nil))) (so_callT rfl (fun ds g h => runT_no ds g h) (so_cons (so_var 1) (so_cons (so_c fun _ => .int _) so_nil)))) so_nil))) (so_cons (so_callT rfl (fun ds g h => runT_no ds g h) (so_cons (so_var 1) (so_cons (so_b sb_len (so_cons (so_var 4) so_nil)) so_nil))) so_nil)))
    (ss_seq (ss_asg (so_op sr_ix (so_callP rfl (fun ds h => runD_no ds h) (so_cons (so_var 3) (so_cons (so_var 4) (so_cons (so_callP rfl (fun ds h => runD_no ds h) (so_cons (so_var 3) (so_cons (so_var 6) (so_cons (so_var 9) so_nil)))) so_nil)))) (so_var 10)) (sg_name 11))
    (ss_seq (ss_asg (so_if (so_tst (so_op sr_eq (so_callT rfl (fun ds g h => runT_no ds g h) (so_cons (so_var 1) (so_cons (so_c fun _ => .int _) so_nil))) (so_c fun _ => .int _))) (so_callT rfl (fun ds g h => runT_no ds g h) (so_cons (so_var 1) (so_cons (so_op sr_ix (so_op sr_ix (so_var 4) (so_var 10)) (so_c fun _ => .int _)) so_nil))) (so_var 11)) (sg_name 11))
    (ss_seq (ss_if (so_tst (so_op sr_eq (so_callT rfl (fun ds g h => runT_no ds g h) (so_cons (so_var 1) (so_cons (so_c fun _ => .int _) so_nil))) (so_c fun _ => .int _))) (ss_seq (ss_asg (so_if (so_tst (so_op sr_isN (so_var 8) (so_c fun _ => .non))) (so_var 5) (so_var 8)) (sg_name 8))
    (ss_seq (ss_asg (so_lst (so_cons (so_tup (so_cons (so_un su_neg (so_c fun _ => .int _)) (so_cons (so_var 10) (so_cons (so_var 11) so_nil)))) (so_cons (so_tup (so_cons (so_var 9) (so_cons (so_b sb_len (so_cons (so_var 4) so_nil)) (so_cons (so_var 11) so_nil)))) (so_cons (so_tup (so_cons (so_var 9) (so_cons (so_var 10) (so_cons (so_op sr_ix (so_op sr_ix (so_var 4) (so_var 10)) (so_c fun _ => .int _)) so_nil)))) so_nil)))) (sg_name 12))
    (ss_seq (ss_asg (so_op sr_add (so_var 12) (so_lst (so_cons (so_tup (so_cons (so_var 9) (so_cons (so_un su_neg (so_c fun _ => .int _)) (so_cons (so_c fun _ => .int _) so_nil)))) (so_cons (so_tup (so_cons (so_c fun _ => .int _) (so_cons (so_var 10) (so_cons (so_var 11) so_nil)))) (so_cons (so_tup (so_cons (so_var 9) (so_cons (so_var 10) (so_cons (so_un su_neg (so_c fun _ => .int _)) so_nil)))) so_nil))))) (sg_name 12))
    (ss_frz [12] (ss_asg (so_callT rfl (fun ds g h => runT_no ds g h) (so_cons (so_var 1) (so_cons (so_var 12) so_nil))) (sg_any rfl (sg_cons (sg_name 9) (sg_cons (sg_name 10) (sg_cons (sg_name 11) sg_nil))))))))) ss_next)
    (ss_app (so_tup (so_cons (so_var 9) (so_cons (so_var 10) (so_cons (so_var 11) so_nil))))))))))
    (ss_seq (ss_asg (so_lst (so_cons (so_tup so_nil) so_nil)) (sg_name 13))
    (ss_seq (ss_for (si_rng2 (so_c fun _ => .int _) (so_b sb_len (so_cons (so_var 3) so_nil))) (sg_name 14) (ss_asg (so_op sr_add (so_var 13) (so_lc (si_rng1 (so_op sr_ix (so_op sr_ix (so_var 3) (so_var 14)) (so_c fun _ => .int _))) (sg_name 15) (by decide) so_yes (so_tup (so_cons (so_tup (so_cons (so_var 14) (so_cons (so_var 15) so_nil))) so_nil)))) (sg_name 13)))
    (ss_seq (ss_asg (so_lst so_nil) (sg_name 16))
    (ss_seq (ss_frz [13] (ss_for (si_seq (so_if (so_tst (so_op sr_isN (so_var 8) (so_c fun _ => .non))) (so_var 13) (so_lst so_nil))) (sg_name 17) (ss_seq (ss_frz [7] (ss_asg (so_lc (si_seq (so_var 7)) (sg_name 19) (by decide) so_yes (so_op sr_ix (so_callP rfl (fun ds h => runD_no ds h) (so_cons (so_var 3) (so_cons (so_var 4) (so_cons (so_callP rfl (fun ds h => runD_no ds h) (so_cons (so_var 3) (so_cons (so_var 17) (so_cons (so_op sr_ix (so_var 19) (so_c fun _ => .int _)) so_nil)))) so_nil)))) (so_op sr_ix (so_var 19) (so_c fun _ => .int _)))) (sg_name 18)))
    (ss_frz [7] (ss_asg (so_op sr_add (so_var 16) (so_op sr_mul (so_lst (so_cons (so_var 17) so_nil)) (so_b sb_int (so_cons (so_op sr_eq (so_var 18) (so_lc (si_seq (so_var 7)) (sg_name 19) (by decide) so_yes (so_op sr_ix (so_var 19) (so_c fun _ => .int _)))) so_nil)))) (sg_name 16))))))
    (ss_seq (ss_frz [16] (ss_asg (so_if (so_tst (so_op sr_isN (so_var 8) (so_c fun _ => .non))) (so_var 16) (so_tup (so_cons (so_c fun _ => .str _) (so_cons (so_c fun _ => .str _) (so_cons (so_var 8) so_nil))))) (sg_name 16)))
    (ss_frz [7, 16] (ss_if (so_not (so_tB (so_callP rfl (fun ds h => runD_no ds h) (so_cons (so_toldA tabW_WT (fun E => (so_callP rfl (fun ds h => runD_no ds h) (so_cons (so_var 3) (so_cons (so_var 4) (so_cons (so_var 7) so_nil)))))) (so_cons (so_var 16) so_nil))))) (ss_ret (so_c fun _ => .bl _)) ss_next))))))))))))
    (ss_ret (so_c fun _ => .bl _))))
  refine ⟨_, ?_, law_okT (N := n_law) (m := b_law) ss law_true h⟩
  exact (pss_cons (ps_set (i := 1) nd rfl (by first | exact Or.inl rfl | exact Or.inr rfl) (pe_callH (Has.up h__law_dice) hr (by decide) takes0 rfl (pa_cons (pv 0) pa_nil)))
    (pss_cons (ps_for PassesOwn.never rfl (pi_range1 (by rfl) z_range (pa_cons pe_int pa_nil)) (pg_name (i := 2) nd rfl (by first | exact Or.inl rfl | exact Or.inr rfl)) (pss_cons (ps_set (i := 3) nd rfl (by first | exact Or.inl rfl | exact Or.inr rfl) (pe_callH (Has.up h__law_works) hr (by decide) takes0 rfl (pa_cons (pv 1) (pa_cons pe_int (pa_cons pe_int pa_nil)))))
    (pss_cons (ps_set (i := 4) nd rfl (by first | exact Or.inl rfl | exact Or.inr rfl) (pe_callTy call_tuple_of (by rfl) z_tuple (by decide +kernel) (pa_cons (pe_lc (own := [("_law_k", 5)]) rfl nd (pi_range1 (by rfl) z_range (pa_cons (pe_callB call_len (by rfl) z_len (by decide +kernel) (pa_cons (pv 3) pa_nil)) pa_nil)) (blkOk_by (own := [("_law_k", 5)]) (N := n_law) (sc := defScope s_law) (by decide +kernel)) (fun _ _ _ _ _ => (pg_name (i := 5) nd rfl (by first | exact Or.inl rfl | exact Or.inr rfl))) (fun _ _ _ _ _ => pts_nil) (fun _ _ _ _ _ => (pe_tup (pa_cons (pe_op op_addA pe_str (pe_ix ix_seq pe_str (pv 5) (fun _ _ => rfl))) (pa_cons (pv 5) (pa_cons (pe_op op_addA pe_int (pe_callH (Has.up h__law_next) hr (by decide) takes0 rfl (pa_cons (pv 1) (pa_cons pe_int pa_nil)))) pa_nil)))))) pa_nil)))
    (pss_cons (ps_asg (pe_tup (pa_cons (pe_callH (Has.up h__law_worn) hr (by decide) takes0 rfl (pa_cons (pv 1) (pa_cons (pv 3) (pa_cons pe_int pa_nil)))) (pa_cons (pe_lst pa_nil) (pa_cons pe_non pa_nil)))) (pg_any rfl (pgs_cons (pg_name (i := 6) nd rfl (by first | exact Or.inl rfl | exact Or.inr rfl)) (pgs_cons (pg_name (i := 7) nd rfl (by first | exact Or.inl rfl | exact Or.inr rfl)) (pgs_cons (pg_name (i := 8) nd rfl (by first | exact Or.inl rfl | exact Or.inr rfl)) pgs_nil)))))
    (pss_cons (ps_for PassesOwn.never rfl (pi_range1 (by rfl) z_range (pa_cons (pe_callH (Has.up h__law_next) hr (by decide) takes0 rfl (pa_cons (pv 1) (pa_cons pe_int pa_nil))) pa_nil)) (pg_name (i := 5) nd rfl (by first | exact Or.inl rfl | exact Or.inr rfl)) (pss_cons (ps_par (i := 9) (j := 10) rfl nd rfl rfl (by decide) rfl rfl (pa_cons (pe_callH (Has.up h__law_next) hr (by decide) takes0 rfl (pa_cons (pv 1) (pa_cons (pe_ix ix_seq (pe_lst (pa_cons pe_int (pa_cons pe_int pa_nil))) (pe_callH (Has.up h__law_next) hr (by decide) takes0 rfl (pa_cons (pv 1) (pa_cons pe_int pa_nil))) (fun _ _ => rfl)) pa_nil))) (pa_cons (pe_callH (Has.up h__law_next) hr (by decide) takes0 rfl (pa_cons (pv 1) (pa_cons (pe_callB call_len (by rfl) z_len (by decide +kernel) (pa_cons (pv 4) pa_nil)) pa_nil))) pa_nil)) (by rfl))
    (pss_cons (ps_set (i := 11) nd rfl (by first | exact Or.inl rfl | exact Or.inr rfl) (pe_ix ix_seq (pe_callH h__law_marks hr (by decide) takes0 rfl (pa_cons (pv 3) (pa_cons (pv 4) (pa_cons (pe_callH h__law_steps hr (by decide) takes0 rfl (pa_cons (pv 3) (pa_cons (pv 6) (pa_cons (pv 9) pa_nil)))) pa_nil)))) (pv 10) (fun _ _ => rfl)))
    (pss_cons (ps_set (i := 11) nd rfl (by first | exact Or.inl rfl | exact Or.inr rfl) (pe_ifExp (pt_cmpR (op_eqD hr.units) (pe_callH (Has.up h__law_next) hr (by decide) takes0 rfl (pa_cons (pv 1) (pa_cons pe_int pa_nil))) pe_int (nomark _)) (pe_callH (Has.up h__law_next) hr (by decide) takes0 rfl (pa_cons (pv 1) (pa_cons (pe_ix ix_seq (pe_ix ix_seq (pv 4) (pv 10) (fun _ _ => rfl)) pe_int (fun _ _ => rfl)) pa_nil))) (pv 11)))
    (pss_cons (ps_if (pt_cmpR (op_eqD hr.units) (pe_callH (Has.up h__law_next) hr (by decide) takes0 rfl (pa_cons (pv 1) (pa_cons pe_int pa_nil))) pe_int (nomark _)) (pss_cons (ps_set (i := 8) nd rfl (by first | exact Or.inl rfl | exact Or.inr rfl) (pe_ifExp (pt_cmpR op_isN (pv 8) pe_non (nomark _)) (pv 5) (pv 8)))
    (pss_cons (ps_set (i := 12) nd rfl (by first | exact Or.inl rfl | exact Or.inr rfl) (pe_lst (pa_cons (pe_tup (pa_cons (pe_un un_neg pe_int) (pa_cons (pv 10) (pa_cons (pv 11) pa_nil)))) (pa_cons (pe_tup (pa_cons (pv 9) (pa_cons (pe_callB call_len (by rfl) z_len (by decide +kernel) (pa_cons (pv 4) pa_nil)) (pa_cons (pv 11) pa_nil)))) (pa_cons (pe_tup (pa_cons (pv 9) (pa_cons (pv 10) (pa_cons (pe_ix ix_seq (pe_ix ix_seq (pv 4) (pv 10) (fun _ _ => rfl)) pe_int (fun _ _ => rfl)) pa_nil)))) pa_nil)))))
    (pss_cons (ps_set (i := 12) nd rfl (by first | exact Or.inl rfl | exact Or.inr rfl) (pe_op op_addA (pv 12) (pe_lst (pa_cons (pe_tup (pa_cons (pv 9) (pa_cons (pe_un un_neg pe_int) (pa_cons pe_int pa_nil)))) (pa_cons (pe_tup (pa_cons pe_int (pa_cons (pv 10) (pa_cons (pv 11) pa_nil)))) (pa_cons (pe_tup (pa_cons (pv 9) (pa_cons (pv 10) (pa_cons (pe_un un_neg pe_int) pa_nil)))) pa_nil))))))
    (pss_one (ps_asg (pe_callH (Has.up h__law_pick) hr (by decide) takes0 rfl (pa_cons (pv 1) (pa_cons (pv 12) pa_nil))) (pg_any rfl (pgs_cons (pg_name (i := 9) nd rfl (by first | exact Or.inl rfl | exact Or.inr rfl)) (pgs_cons (pg_name (i := 10) nd rfl (by first | exact Or.inl rfl | exact Or.inr rfl)) (pgs_cons (pg_name (i := 11) nd rfl (by first | exact Or.inl rfl | exact Or.inr rfl)) pgs_nil))))))))) pss_nil)
    (pss_one (ps_expr (pe_bm PySem.F.plainAttrs_list PySem.F.slot_list_append PySem.F.type_list_append mt_append (pv 7) (pa_cons (pe_tup (pa_cons (pv 9) (pa_cons (pv 10) (pa_cons (pv 11) pa_nil)))) pa_nil)))))))))
    (pss_cons (ps_set (i := 13) nd rfl (by first | exact Or.inl rfl | exact Or.inr rfl) (pe_lst (pa_cons (pe_tup pa_nil) pa_nil)))
    (pss_cons (ps_for PassesOwn.never rfl (pi_range2 (by rfl) z_range (pa_cons pe_int (pa_cons (pe_callB call_len (by rfl) z_len (by decide +kernel) (pa_cons (pv 3) pa_nil)) pa_nil))) (pg_name (i := 14) nd rfl (by first | exact Or.inl rfl | exact Or.inr rfl)) (pss_one (ps_set (i := 13) nd rfl (by first | exact Or.inl rfl | exact Or.inr rfl) (pe_op op_addA (pv 13) (pe_lc (own := [("_law_tooth", 15)]) rfl nd (pi_range1 (by rfl) z_range (pa_cons (pe_ix ix_seq (pe_ix ix_seq (pv 3) (pv 14) (fun _ _ => rfl)) pe_int (fun _ _ => rfl)) pa_nil)) (blkOk_by (own := [("_law_tooth", 15)]) (N := n_law) (sc := defScope s_law) (by decide +kernel)) (fun _ _ _ _ _ => (pg_name (i := 15) nd rfl (by first | exact Or.inl rfl | exact Or.inr rfl))) (fun _ _ _ _ _ => pts_nil) (fun _ _ _ _ _ => (pe_tup (pa_cons (pe_tup (pa_cons (pv 14) (pa_cons (pv 15) pa_nil))) pa_nil))))))))
    (pss_cons (ps_set (i := 16) nd rfl (by first | exact Or.inl rfl | exact Or.inr rfl) (pe_lst pa_nil))
    (pss_cons (ps_for PassesOwn.never rfl (pi_any (pe_ifExp (pt_cmpR op_isN (pv 8) pe_non (nomark _)) (pv 13) (pe_lst pa_nil))) (pg_name (i := 17) nd rfl (by first | exact Or.inl rfl | exact Or.inr rfl)) (pss_cons (ps_setLc (i := 18) (own := [("_law_row", 19)]) rfl nd rfl rfl (sw_true rfl rfl rfl (by decide +kernel)) (pi_any (pv 7)) (blkOk_by (own := [("_law_row", 19)]) (N := n_law) (sc := defScope s_law) (by decide +kernel)) (fun _ _ _ _ _ => (pg_name (i := 19) nd rfl (by first | exact Or.inl rfl | exact Or.inr rfl))) (fun _ _ _ _ _ => pts_nil) (fun _ _ _ _ _ => (pe_ix ix_seq (pe_callH h__law_marks hr (by decide) takes0 rfl (pa_cons (pv 3) (pa_cons (pv 4) (pa_cons (pe_callH h__law_steps hr (by decide) takes0 rfl (pa_cons (pv 3) (pa_cons (pv 17) (pa_cons (pe_ix ix_seq (pv 19) pe_int (fun _ _ => rfl)) pa_nil)))) pa_nil)))) (pe_ix ix_seq (pv 19) pe_int (fun _ _ => rfl)) (fun _ _ => rfl))))
    (pss_one (ps_set (i := 16) nd rfl (by first | exact Or.inl rfl | exact Or.inr rfl) (pe_op op_addA (pv 16) (pe_op op_mulA (pe_lst (pa_cons (pv 17) pa_nil)) (pe_callTy call_int1 (by rfl) z_int (by decide +kernel) (pa_cons (pe_cmpR (op_eqD hr.units) (pv 18) (pe_lc (own := [("_law_row", 19)]) rfl nd (pi_any (pv 7)) (blkOk_by (own := [("_law_row", 19)]) (N := n_law) (sc := defScope s_law) (by decide +kernel)) (fun _ _ _ _ _ => (pg_name (i := 19) nd rfl (by first | exact Or.inl rfl | exact Or.inr rfl))) (fun _ _ _ _ _ => pts_nil) (fun _ _ _ _ _ => (pe_ix ix_seq (pv 19) pe_int (fun _ _ => rfl)))) (nomark _)) pa_nil))))))))
    (pss_cons (ps_set (i := 16) nd rfl (by first | exact Or.inl rfl | exact Or.inr rfl) (pe_ifExp (pt_cmpR op_isN (pv 8) pe_non (nomark _)) (pv 16) (pe_tup (pa_cons pe_str (pa_cons pe_str (pa_cons (pv 8) pa_nil))))))
    (pss_one (ps_if (pt_not (pt_val (pe_callH h__law_like_3 hr (by decide) takes0 rfl (pa_cons (pe_toldHA h__law_told_t rfl B rfl hr (lamS1_by (N := n_law) (up := defScope s_law) (by decide +kernel)) (lamB_0 rfl (fun _ _ _ _ _ _ => rfl)) rfl (.inl rfl) (fun A out s H E f c' hr => (pe_callH h_suspects hr (by decide) (takes_of rfl rfl rfl rfl) rfl (pa_cons (pv 3) (pa_cons (pv 4) (pa_cons (pv 7) pa_nil)))))) (pa_cons (pv 16) pa_nil))))) (pss_one (ps_ret pe_bl)) pss_nil))))))))))))
    (pss_one (ps_ret pe_bl))))
end
theorem all_mk {l : PySem.W.OpenLaw} {w : World} {K : PySem.W.Frag} {h : Heap} {mg : Str → Option Value} {fa f0 f1 f2 f3 f4 f5 f6 f7 f8 f9 f10 f11 f12 f13 f14 f15 f16 f17 f18 f19 f20 f21 f22 f23 f24 f25 f26 f27 f28 : Addr} {od0 an0 od1 an1 od2 an2 od3 an3 od4 an4 od5 an5 od6 an6 od7 an7 od8 an8 od9 an9 od10 an10 od11 an11 od12 an12 od13 an13 od14 an14 od15 an15 od16 an16 od17 an17 od18 an18 od19 an19 od20 an20 od21 an21 od22 an22 od23 an23 od24 an24 od25 an25 od26 an26 od27 an27 od28 an28 : Option Addr} {sl0 sl1 sl2 sl3 sl4 sl5 sl6 sl7 sl8 sl9 sl10 sl11 sl12 sl13 sl14 sl15 sl16 sl17 sl18 sl19 sl20 sl21 sl22 sl23 sl24 sl25 sl26 sl27 sl28 : Array (Option Value)} {oc0 kV0 dc0 pm0 cd0 ct0 oc1 kV1 dc1 pm1 cd1 ct1 oc2 kV2 dc2 pm2 cd2 ct2 oc3 kV3 dc3 pm3 cd3 ct3 oc4 kV4 dc4 pm4 cd4 ct4 oc5 kV5 dc5 pm5 cd5 ct5 oc6 kV6 dc6 pm6 cd6 ct6 oc7 kV7 dc7 pm7 cd7 ct7 oc8 kV8 dc8 pm8 cd8 ct8 oc9 kV9 dc9 pm9 cd9 ct9 oc10 kV10 dc10 pm10 cd10 ct10 oc11 kV11 dc11 pm11 cd11 ct11 oc12 kV12 dc12 pm12 cd12 ct12 oc13 kV13 dc13 pm13 cd13 ct13 oc14 kV14 dc14 pm14 cd14 ct14 oc15 kV15 dc15 pm15 cd15 ct15 oc16 kV16 dc16 pm16 cd16 ct16 oc17 kV17 dc17 pm17 cd17 ct17 oc18 kV18 dc18 pm18 cd18 ct18 oc19 kV19 dc19 pm19 cd19 ct19 oc20 kV20 dc20 pm20 cd20 ct20 oc21 kV21 dc21 pm21 cd21 ct21 oc22 kV22 dc22 pm22 cd22 ct22 oc23 kV23 dc23 pm23 cd23 ct23 oc24 kV24 dc24 pm24 cd24 ct24 oc25 kV25 dc25 pm25 cd25 ct25 oc26 kV26 dc26 pm26 cd26 ct26 oc27 kV27 dc27 pm27 cd27 ct27 oc28 kV28 dc28 pm28 ct28 : Value} {t_MOST_TEETH t_LEAST_TEETH t_MOST_ARBORS t_MOST_NAME t_LETTERS t_MOST_HANDS t_MOST_MARKS : Tok} {e_BadWorks_ : Addr} {e_BadHands_ : Addr} {e_BadWorn_ : Addr} {e_BadSeen_ : Addr} {e_BadDeed_ : Addr} {e_BadBeats_ : Addr} {e_NoHand_ : Addr} {e_BadCalendar_ : Addr} {e_BadDays_ : Addr} {e_NoDate_ : Addr} {e_BadYears_ : Addr} {e_BadPlaces_ : Addr} {e_BadLevels_ : Addr} {e_BadMark_ : Addr} {e_Taken_ : Addr} {e_NotWorn_ : Addr} {e_BadText_ : Addr} {e_WorksError_ : Addr} {T17 : Addr} {oT17 : Obj} {nT17 : Nat} {uT17 : Tok} {CL PL : Addr} {eL : Value} {dL : Option Addr} {vL : Array Value} {sL : Array (Option Value)}
    (X : K.In h)
    (G : h.Ns mainGlobals mg)
    (hfa : mg "law" = some (.ref fa))
    (ax_BadWorks : PySem.W.nsIn K mainGlobals "BadWorks" = some (some (.ref e_BadWorks_)))
    (ax_BadHands : PySem.W.nsIn K mainGlobals "BadHands" = some (some (.ref e_BadHands_)))
    (ax_BadWorn : PySem.W.nsIn K mainGlobals "BadWorn" = some (some (.ref e_BadWorn_)))
    (ax_BadSeen : PySem.W.nsIn K mainGlobals "BadSeen" = some (some (.ref e_BadSeen_)))
    (ax_BadDeed : PySem.W.nsIn K mainGlobals "BadDeed" = some (some (.ref e_BadDeed_)))
    (ax_BadBeats : PySem.W.nsIn K mainGlobals "BadBeats" = some (some (.ref e_BadBeats_)))
    (ax_NoHand : PySem.W.nsIn K mainGlobals "NoHand" = some (some (.ref e_NoHand_)))
    (ax_BadCalendar : PySem.W.nsIn K mainGlobals "BadCalendar" = some (some (.ref e_BadCalendar_)))
    (ax_BadDays : PySem.W.nsIn K mainGlobals "BadDays" = some (some (.ref e_BadDays_)))
    (ax_NoDate : PySem.W.nsIn K mainGlobals "NoDate" = some (some (.ref e_NoDate_)))
    (ax_BadYears : PySem.W.nsIn K mainGlobals "BadYears" = some (some (.ref e_BadYears_)))
    (ax_BadPlaces : PySem.W.nsIn K mainGlobals "BadPlaces" = some (some (.ref e_BadPlaces_)))
    (ax_BadLevels : PySem.W.nsIn K mainGlobals "BadLevels" = some (some (.ref e_BadLevels_)))
    (ax_BadMark : PySem.W.nsIn K mainGlobals "BadMark" = some (some (.ref e_BadMark_)))
    (ax_Taken : PySem.W.nsIn K mainGlobals "Taken" = some (some (.ref e_Taken_)))
    (ax_NotWorn : PySem.W.nsIn K mainGlobals "NotWorn" = some (some (.ref e_NotWorn_)))
    (ax_BadText : PySem.W.nsIn K mainGlobals "BadText" = some (some (.ref e_BadText_)))
    (ax_WorksError : PySem.W.nsIn K mainGlobals "WorksError" = some (some (.ref e_WorksError_)))
    (a0 : PySem.W.nsIn K mainGlobals "_law_dice" = some (some (.ref f0)))
    (l0 : K.lookup f0 = some ⟨oc0, od0, .func (PySem.W.fnOf "_law_dice" "_law_dice" (defArgs s__law_dice) (defBody s__law_dice) (defScope s__law_dice) .none kV0 dc0 pm0 an0 cd0 ct0), sl0⟩)
    (c0 : PySem.W.codeIn K cd0 "_law_dice" = true)
    (k0 : PySem.W.keepIn K (.ref f0) = true)
    (a1 : PySem.W.nsIn K mainGlobals "_law_next" = some (some (.ref f1)))
    (l1 : K.lookup f1 = some ⟨oc1, od1, .func (PySem.W.fnOf "_law_next" "_law_next" (defArgs s__law_next) (defBody s__law_next) (defScope s__law_next) .none kV1 dc1 pm1 an1 cd1 ct1), sl1⟩)
    (c1 : PySem.W.codeIn K cd1 "_law_next" = true)
    (k1 : PySem.W.keepIn K (.ref f1) = true)
    (a2 : PySem.W.nsIn K mainGlobals "_law_works" = some (some (.ref f2)))
    (l2 : K.lookup f2 = some ⟨oc2, od2, .func (PySem.W.fnOf "_law_works" "_law_works" (defArgs s__law_works) (defBody s__law_works) (defScope s__law_works) .none kV2 dc2 pm2 an2 cd2 ct2), sl2⟩)
    (c2 : PySem.W.codeIn K cd2 "_law_works" = true)
    (k2 : PySem.W.keepIn K (.ref f2) = true)
    (a3 : PySem.W.nsIn K mainGlobals "_law_worn" = some (some (.ref f3)))
    (l3 : K.lookup f3 = some ⟨oc3, od3, .func (PySem.W.fnOf "_law_worn" "_law_worn" (defArgs s__law_worn) (defBody s__law_worn) (defScope s__law_worn) .none kV3 dc3 pm3 an3 cd3 ct3), sl3⟩)
    (c3 : PySem.W.codeIn K cd3 "_law_worn" = true)
    (k3 : PySem.W.keepIn K (.ref f3) = true)
    (a4 : PySem.W.nsIn K mainGlobals "_law_marks" = some (some (.ref f4)))
    (l4 : K.lookup f4 = some ⟨oc4, od4, .func (PySem.W.fnOf "_law_marks" "_law_marks" (defArgs s__law_marks) (defBody s__law_marks) (defScope s__law_marks) .none kV4 dc4 pm4 an4 cd4 ct4), sl4⟩)
    (c4 : PySem.W.codeIn K cd4 "_law_marks" = true)
    (k4 : PySem.W.keepIn K (.ref f4) = true)
    (a5 : PySem.W.nsIn K mainGlobals "_law_steps" = some (some (.ref f5)))
    (l5 : K.lookup f5 = some ⟨oc5, od5, .func (PySem.W.fnOf "_law_steps" "_law_steps" (defArgs s__law_steps) (defBody s__law_steps) (defScope s__law_steps) .none kV5 dc5 pm5 an5 cd5 ct5), sl5⟩)
    (c5 : PySem.W.codeIn K cd5 "_law_steps" = true)
    (k5 : PySem.W.keepIn K (.ref f5) = true)
    (a6 : PySem.W.nsIn K mainGlobals "_law_pick" = some (some (.ref f6)))
    (l6 : K.lookup f6 = some ⟨oc6, od6, .func (PySem.W.fnOf "_law_pick" "_law_pick" (defArgs s__law_pick) (defBody s__law_pick) (defScope s__law_pick) .none kV6 dc6 pm6 an6 cd6 ct6), sl6⟩)
    (c6 : PySem.W.codeIn K cd6 "_law_pick" = true)
    (k6 : PySem.W.keepIn K (.ref f6) = true)
    (a7 : PySem.W.nsIn K mainGlobals "_law_like" = some (some (.ref f7)))
    (l7 : K.lookup f7 = some ⟨oc7, od7, .func (PySem.W.fnOf "_law_like" "_law_like" (defArgs s__law_like_0) (defBody s__law_like_0) (defScope s__law_like_0) .none kV7 dc7 pm7 an7 cd7 ct7), sl7⟩)
    (c7 : PySem.W.codeIn K cd7 "_law_like" = true)
    (k7 : PySem.W.keepIn K (.ref f7) = true)
    (a8 : PySem.W.nsIn K mainGlobals "_law_like" = some (some (.ref f8)))
    (l8 : K.lookup f8 = some ⟨oc8, od8, .func (PySem.W.fnOf "_law_like" "_law_like" (defArgs s__law_like_1) (defBody s__law_like_1) (defScope s__law_like_1) .none kV8 dc8 pm8 an8 cd8 ct8), sl8⟩)
    (c8 : PySem.W.codeIn K cd8 "_law_like" = true)
    (k8 : PySem.W.keepIn K (.ref f8) = true)
    (a9 : PySem.W.nsIn K mainGlobals "_law_like" = some (some (.ref f9)))
    (l9 : K.lookup f9 = some ⟨oc9, od9, .func (PySem.W.fnOf "_law_like" "_law_like" (defArgs s__law_like_2) (defBody s__law_like_2) (defScope s__law_like_2) .none kV9 dc9 pm9 an9 cd9 ct9), sl9⟩)
    (c9 : PySem.W.codeIn K cd9 "_law_like" = true)
    (k9 : PySem.W.keepIn K (.ref f9) = true)
    (a10 : PySem.W.nsIn K mainGlobals "_law_like" = some (some (.ref f10)))
    (l10 : K.lookup f10 = some ⟨oc10, od10, .func (PySem.W.fnOf "_law_like" "_law_like" (defArgs s__law_like_3) (defBody s__law_like_3) (defScope s__law_like_3) .none kV10 dc10 pm10 an10 cd10 ct10), sl10⟩)
    (c10 : PySem.W.codeIn K cd10 "_law_like" = true)
    (k10 : PySem.W.keepIn K (.ref f10) = true)
    (a11 : PySem.W.nsIn K mainGlobals "_law_told" = some (some (.ref f11)))
    (l11 : K.lookup f11 = some ⟨oc11, od11, .func (PySem.W.fnOf "_law_told" "_law_told" (defArgs s__law_told) (defBody s__law_told) (defScope s__law_told) .none kV11 dc11 pm11 an11 cd11 ct11), sl11⟩)
    (c11 : PySem.W.codeIn K cd11 "_law_told" = true)
    (k11 : PySem.W.keepIn K (.ref f11) = true)
    (a12 : PySem.W.nsIn K mainGlobals "is_arbor" = some (some (.ref f12)))
    (l12 : K.lookup f12 = some ⟨oc12, od12, .func (PySem.W.fnOf "is_arbor" "is_arbor" (defArgs s_is_arbor) (defBody s_is_arbor) (defScope s_is_arbor) .none kV12 dc12 pm12 an12 cd12 ct12), sl12⟩)
    (c12 : PySem.W.codeIn K cd12 "is_arbor" = true)
    (k12 : PySem.W.keepIn K (.ref f12) = true)
    (a13 : PySem.W.nsIn K mainGlobals "need_works" = some (some (.ref f13)))
    (l13 : K.lookup f13 = some ⟨oc13, od13, .func (PySem.W.fnOf "need_works" "need_works" (defArgs s_need_works) (defBody s_need_works) (defScope s_need_works) .none kV13 dc13 pm13 an13 cd13 ct13), sl13⟩)
    (c13 : PySem.W.codeIn K cd13 "need_works" = true)
    (k13 : PySem.W.keepIn K (.ref f13) = true)
    (a14 : PySem.W.nsIn K mainGlobals "is_name" = some (some (.ref f14)))
    (l14 : K.lookup f14 = some ⟨oc14, od14, .func (PySem.W.fnOf "is_name" "is_name" (defArgs s_is_name) (defBody s_is_name) (defScope s_is_name) .none kV14 dc14 pm14 an14 cd14 ct14), sl14⟩)
    (c14 : PySem.W.codeIn K cd14 "is_name" = true)
    (k14 : PySem.W.keepIn K (.ref f14) = true)
    (a15 : PySem.W.nsIn K mainGlobals "need_hands" = some (some (.ref f15)))
    (l15 : K.lookup f15 = some ⟨oc15, od15, .func (PySem.W.fnOf "need_hands" "need_hands" (defArgs s_need_hands) (defBody s_need_hands) (defScope s_need_hands) .none kV15 dc15 pm15 an15 cd15 ct15), sl15⟩)
    (c15 : PySem.W.codeIn K cd15 "need_hands" = true)
    (k15 : PySem.W.keepIn K (.ref f15) = true)
    (a16 : PySem.W.findIn K (.ref e_BadSeen_) "__init__" = some (some (.ref f16)))
    (y16 : PySem.W.typeIn K (.ref f16) = some (.type "function"))
    (no_BadSeen : PySem.W.findIn K (.ref e_BadSeen_) "at" = some none)
    (l16 : K.lookup f16 = some ⟨oc16, od16, .func (PySem.W.fnOf "__init__" "BadSeen.__init__" (defArgs s_BadSeen___init__) (defBody s_BadSeen___init__) (defScope s_BadSeen___init__) .none kV16 dc16 pm16 an16 cd16 ct16), sl16⟩)
    (c16 : PySem.W.codeIn K cd16 "BadSeen.__init__" = true)
    (k16 : PySem.W.keepIn K (.ref f16) = true)
    (a17 : PySem.W.nsIn K mainGlobals "need_beats" = some (some (.ref f17)))
    (l17 : K.lookup f17 = some ⟨oc17, od17, .func (PySem.W.fnOf "need_beats" "need_beats" (defArgs s_need_beats) (defBody s_need_beats) (defScope s_need_beats) (.ref T17) kV17 dc17 pm17 an17 cd17 ct17), sl17⟩)
    (T17_ : K.lookup T17 = some oT17)
    (c17 : PySem.W.codeIn K cd17 "need_beats" = true)
    (k17 : PySem.W.keepIn K (.ref f17) = true)
    (d17 : oT17.data = .seq #[.int 1000000 uT17] nT17)
    (a18 : PySem.W.nsIn K mainGlobals "need_hand" = some (some (.ref f18)))
    (l18 : K.lookup f18 = some ⟨oc18, od18, .func (PySem.W.fnOf "need_hand" "need_hand" (defArgs s_need_hand) (defBody s_need_hand) (defScope s_need_hand) .none kV18 dc18 pm18 an18 cd18 ct18), sl18⟩)
    (c18 : PySem.W.codeIn K cd18 "need_hand" = true)
    (k18 : PySem.W.keepIn K (.ref f18) = true)
    (a19 : PySem.W.nsIn K mainGlobals "need_seen" = some (some (.ref f19)))
    (l19 : K.lookup f19 = some ⟨oc19, od19, .func (PySem.W.fnOf "need_seen" "need_seen" (defArgs s_need_seen) (defBody s_need_seen) (defScope s_need_seen) .none kV19 dc19 pm19 an19 cd19 ct19), sl19⟩)
    (c19 : PySem.W.codeIn K cd19 "need_seen" = true)
    (k19 : PySem.W.keepIn K (.ref f19) = true)
    (a20 : PySem.W.nsIn K mainGlobals "all_single" = some (some (.ref f20)))
    (l20 : K.lookup f20 = some ⟨oc20, od20, .func (PySem.W.fnOf "all_single" "all_single" (defArgs s_all_single) (defBody s_all_single) (defScope s_all_single) .none kV20 dc20 pm20 an20 cd20 ct20), sl20⟩)
    (c20 : PySem.W.codeIn K cd20 "all_single" = true)
    (k20 : PySem.W.keepIn K (.ref f20) = true)
    (a21 : PySem.W.nsIn K mainGlobals "mark_of" = some (some (.ref f21)))
    (l21 : K.lookup f21 = some ⟨oc21, od21, .func (PySem.W.fnOf "mark_of" "mark_of" (defArgs s_mark_of) (defBody s_mark_of) (defScope s_mark_of) .none kV21 dc21 pm21 an21 cd21 ct21), sl21⟩)
    (c21 : PySem.W.codeIn K cd21 "mark_of" = true)
    (k21 : PySem.W.keepIn K (.ref f21) = true)
    (a22 : PySem.W.nsIn K mainGlobals "marks_of" = some (some (.ref f22)))
    (l22 : K.lookup f22 = some ⟨oc22, od22, .func (PySem.W.fnOf "marks_of" "marks_of" (defArgs s_marks_of) (defBody s_marks_of) (defScope s_marks_of) .none kV22 dc22 pm22 an22 cd22 ct22), sl22⟩)
    (c22 : PySem.W.codeIn K cd22 "marks_of" = true)
    (k22 : PySem.W.keepIn K (.ref f22) = true)
    (a23 : PySem.W.nsIn K mainGlobals "passed" = some (some (.ref f23)))
    (l23 : K.lookup f23 = some ⟨oc23, od23, .func (PySem.W.fnOf "passed" "passed" (defArgs s_passed) (defBody s_passed) (defScope s_passed) .none kV23 dc23 pm23 an23 cd23 ct23), sl23⟩)
    (c23 : PySem.W.codeIn K cd23 "passed" = true)
    (k23 : PySem.W.keepIn K (.ref f23) = true)
    (a24 : PySem.W.nsIn K mainGlobals "missed" = some (some (.ref f24)))
    (l24 : K.lookup f24 = some ⟨oc24, od24, .func (PySem.W.fnOf "missed" "missed" (defArgs s_missed) (defBody s_missed) (defScope s_missed) .none kV24 dc24 pm24 an24 cd24 ct24), sl24⟩)
    (c24 : PySem.W.codeIn K cd24 "missed" = true)
    (k24 : PySem.W.keepIn K (.ref f24) = true)
    (a25 : PySem.W.nsIn K mainGlobals "worn_steps_of" = some (some (.ref f25)))
    (l25 : K.lookup f25 = some ⟨oc25, od25, .func (PySem.W.fnOf "worn_steps_of" "worn_steps_of" (defArgs s_worn_steps_of) (defBody s_worn_steps_of) (defScope s_worn_steps_of) .none kV25 dc25 pm25 an25 cd25 ct25), sl25⟩)
    (c25 : PySem.W.codeIn K cd25 "worn_steps_of" = true)
    (k25 : PySem.W.keepIn K (.ref f25) = true)
    (a26 : PySem.W.nsIn K mainGlobals "fits" = some (some (.ref f26)))
    (l26 : K.lookup f26 = some ⟨oc26, od26, .func (PySem.W.fnOf "fits" "fits" (defArgs s_fits) (defBody s_fits) (defScope s_fits) .none kV26 dc26 pm26 an26 cd26 ct26), sl26⟩)
    (c26 : PySem.W.codeIn K cd26 "fits" = true)
    (k26 : PySem.W.keepIn K (.ref f26) = true)
    (a27 : PySem.W.nsIn K mainGlobals "suspects" = some (some (.ref f27)))
    (l27 : K.lookup f27 = some ⟨oc27, od27, .func (PySem.W.fnOf "suspects" "suspects" (defArgs s_suspects) (defBody s_suspects) (defScope s_suspects) .none kV27 dc27 pm27 an27 cd27 ct27), sl27⟩)
    (c27 : PySem.W.codeIn K cd27 "suspects" = true)
    (k27 : PySem.W.keepIn K (.ref f27) = true)
    (a28 : PySem.W.nsIn K mainGlobals "law" = some (some (.ref f28)))
    (l28 : K.lookup f28 = some ⟨oc28, od28, .func (PySem.W.fnOf "law" "law" (defArgs s_law) (defBody s_law) (defScope s_law) .none kV28 dc28 pm28 an28 (.ref CL) ct28), sl28⟩)
    (c28 : PySem.W.codeIn K (.ref CL) "law" = true)
    (k28 : PySem.W.keepIn K (.ref f28) = true)
    (p_BadBeats : plainB K e_BadBeats_ = true)
    (p_NoHand : plainB K e_NoHand_ = true)
    (ox_BadSeen : oexB K e_BadSeen_ = true)
    (xf_BadSeen : xfB K e_BadSeen_ = true)
    (xt_BadBeats_WorksError : PySem.W.exmOne K (.ref e_BadBeats_) (.ref e_WorksError_) = some true)
    (sb_BadBeats : PySem.W.subIn K (.ref e_BadBeats_) (.type "BaseException") = some true)
    (xt_NoHand_WorksError : PySem.W.exmOne K (.ref e_NoHand_) (.ref e_WorksError_) = some true)
    (sb_NoHand : PySem.W.subIn K (.ref e_NoHand_) (.type "BaseException") = some true)
    (ib_ : initB K e_WorksError_ = true)
    (xc_BadSeen : excCB K e_BadSeen_ = true)
    (xb_BadSeen : PySem.W.exmOne K (.ref e_BadSeen_) (.ref e_BadText_) = some false)
    (xw_BadSeen : PySem.W.exmOne K (.ref e_BadSeen_) (.ref e_WorksError_) = some true)
    (q_BadSeen_BadWorks : PySem.W.kitOne K (.ref e_BadSeen_) (.ref e_BadWorks_) = some false)
    (q_BadSeen_BadHands : PySem.W.kitOne K (.ref e_BadSeen_) (.ref e_BadHands_) = some false)
    (q_BadSeen_BadWorn : PySem.W.kitOne K (.ref e_BadSeen_) (.ref e_BadWorn_) = some false)
    (q_BadSeen_BadSeen : PySem.W.kitOne K (.ref e_BadSeen_) (.ref e_BadSeen_) = some true)
    (q_BadSeen_BadDeed : PySem.W.kitOne K (.ref e_BadSeen_) (.ref e_BadDeed_) = some false)
    (q_BadSeen_BadBeats : PySem.W.kitOne K (.ref e_BadSeen_) (.ref e_BadBeats_) = some false)
    (q_BadSeen_NoHand : PySem.W.kitOne K (.ref e_BadSeen_) (.ref e_NoHand_) = some false)
    (q_BadSeen_BadCalendar : PySem.W.kitOne K (.ref e_BadSeen_) (.ref e_BadCalendar_) = some false)
    (q_BadSeen_BadDays : PySem.W.kitOne K (.ref e_BadSeen_) (.ref e_BadDays_) = some false)
    (q_BadSeen_NoDate : PySem.W.kitOne K (.ref e_BadSeen_) (.ref e_NoDate_) = some false)
    (q_BadSeen_BadYears : PySem.W.kitOne K (.ref e_BadSeen_) (.ref e_BadYears_) = some false)
    (q_BadSeen_BadPlaces : PySem.W.kitOne K (.ref e_BadSeen_) (.ref e_BadPlaces_) = some false)
    (q_BadSeen_BadLevels : PySem.W.kitOne K (.ref e_BadSeen_) (.ref e_BadLevels_) = some false)
    (q_BadSeen_BadMark : PySem.W.kitOne K (.ref e_BadSeen_) (.ref e_BadMark_) = some false)
    (q_BadSeen_Taken : PySem.W.kitOne K (.ref e_BadSeen_) (.ref e_Taken_) = some false)
    (q_BadSeen_NotWorn : PySem.W.kitOne K (.ref e_BadSeen_) (.ref e_NotWorn_) = some false)
    (lC : K.lookup CL = some ⟨eL, dL, .fields vL, sL⟩)
    (vP : vL[11]? = some (.ref PL))
    (hC : PySem.W.codeHdIn K CL PL = true)
    (nP : K.lookup PL = none)
    (g_MOST_TEETH : PySem.W.nsIn K mainGlobals "MOST_TEETH" = some (some (.int 99 t_MOST_TEETH)))
    (g_LEAST_TEETH : PySem.W.nsIn K mainGlobals "LEAST_TEETH" = some (some (.int 4 t_LEAST_TEETH)))
    (g_MOST_ARBORS : PySem.W.nsIn K mainGlobals "MOST_ARBORS" = some (some (.int 8 t_MOST_ARBORS)))
    (g_MOST_NAME : PySem.W.nsIn K mainGlobals "MOST_NAME" = some (some (.int 8 t_MOST_NAME)))
    (g_LETTERS : PySem.W.nsIn K mainGlobals "LETTERS" = some (some (.str "abcdefghijklmnopqrstuvwxyz" t_LETTERS)))
    (g_MOST_HANDS : PySem.W.nsIn K mainGlobals "MOST_HANDS" = some (some (.int 8 t_MOST_HANDS)))
    (g_MOST_MARKS : PySem.W.nsIn K mainGlobals "MOST_MARKS" = some (some (.int 60 t_MOST_MARKS)))
    (z_int : PySem.W.nsIn K mainGlobals "int" = some none)
    (z_len : PySem.W.nsIn K mainGlobals "len" = some none)
    (z_range : PySem.W.nsIn K mainGlobals "range" = some none)
    (z_tuple : PySem.W.nsIn K mainGlobals "tuple" = some none)
    (z_sorted : PySem.W.nsIn K mainGlobals "sorted" = some none)
    (z_set : PySem.W.nsIn K mainGlobals "set" = some none)
    (z_isinstance : PySem.W.nsIn K mainGlobals "isinstance" = some none)
    (z_list : PySem.W.nsIn K mainGlobals "list" = some none)
    (z_bool : PySem.W.nsIn K mainGlobals "bool" = some none)
    (z_str : PySem.W.nsIn K mainGlobals "str" = some none)
    (z_enumerate : PySem.W.nsIn K mainGlobals "enumerate" = some none)
    (z_sum : PySem.W.nsIn K mainGlobals "sum" = some none) :
    ∃ (fd : FuncData) (oc : Value) (od : Option Addr) (osl : Array (Option Value)) (c P : Addr) (e : Value) (dd : Option Addr) (vs : Array Value) (sl : Array (Option Value)), K.lookup fa = some ⟨oc, od, .func fd, osl⟩ ∧ fd.code = .ref c ∧ K.lookup c = some ⟨e, dd, .fields vs, sl⟩ ∧ vs[11]? = some (.ref P) ∧
      PySem.W.codeHdIn K c P = true ∧ K.lookup P = none ∧ (∀ (s : Shared) (v : Value), BindsTo s fd ⟨[v], []⟩ [("_law_script", v)]) ∧ ∀ base : Heap, K.In base → base.Ns mainGlobals mg → LamX.TabB base mg c P → FnOk l.prog w K mg base CX0 7 fa fd ["_law_script"] (spLawT K P) := by
  have e := hfa.symm.trans (PySem.W.mg_of X G a28)
  cases e
  have g_MOST_TEETH := PySem.W.mg_of X G g_MOST_TEETH
  have g_LEAST_TEETH := PySem.W.mg_of X G g_LEAST_TEETH
  have g_MOST_ARBORS := PySem.W.mg_of X G g_MOST_ARBORS
  have g_MOST_NAME := PySem.W.mg_of X G g_MOST_NAME
  have g_LETTERS := PySem.W.mg_of X G g_LETTERS
  have g_MOST_HANDS := PySem.W.mg_of X G g_MOST_HANDS
  have g_MOST_MARKS := PySem.W.mg_of X G g_MOST_MARKS
  have z_int := PySem.W.mg_none_of X G z_int
  have z_len := PySem.W.mg_none_of X G z_len
  have z_range := PySem.W.mg_none_of X G z_range
  have z_tuple := PySem.W.mg_none_of X G z_tuple
  have z_sorted := PySem.W.mg_none_of X G z_sorted
  have z_set := PySem.W.mg_none_of X G z_set
  have z_isinstance := PySem.W.mg_none_of X G z_isinstance
  have z_list := PySem.W.mg_none_of X G z_list
  have z_bool := PySem.W.mg_none_of X G z_bool
  have z_str := PySem.W.mg_none_of X G z_str
  have z_enumerate := PySem.W.mg_none_of X G z_enumerate
  have z_sum := PySem.W.mg_none_of X G z_sum
  have e_BadWorks := PySem.W.mg_of X G ax_BadWorks
  have e_BadHands := PySem.W.mg_of X G ax_BadHands
  have e_BadWorn := PySem.W.mg_of X G ax_BadWorn
  have e_BadSeen := PySem.W.mg_of X G ax_BadSeen
  have e_BadDeed := PySem.W.mg_of X G ax_BadDeed
  have e_BadBeats := PySem.W.mg_of X G ax_BadBeats
  have e_NoHand := PySem.W.mg_of X G ax_NoHand
  have e_BadCalendar := PySem.W.mg_of X G ax_BadCalendar
  have e_BadDays := PySem.W.mg_of X G ax_BadDays
  have e_NoDate := PySem.W.mg_of X G ax_NoDate
  have e_BadYears := PySem.W.mg_of X G ax_BadYears
  have e_BadPlaces := PySem.W.mg_of X G ax_BadPlaces
  have e_BadLevels := PySem.W.mg_of X G ax_BadLevels
  have e_BadMark := PySem.W.mg_of X G ax_BadMark
  have e_Taken := PySem.W.mg_of X G ax_Taken
  have e_NotWorn := PySem.W.mg_of X G ax_NotWorn
  have e_BadText := PySem.W.mg_of X G ax_BadText
  have e_WorksError := PySem.W.mg_of X G ax_WorksError
  have F0 : FunD K "_law_dice" "_law_dice" (defArgs s__law_dice) (defBody s__law_dice) (defScope s__law_dice) [] [] f0 _ := ⟨⟨_, _, _, _, _, _, _, _, _, _, rfl, l0, c0, .inl ⟨rfl, rfl⟩, .inl rfl⟩, k0⟩
  have F1 : FunD K "_law_next" "_law_next" (defArgs s__law_next) (defBody s__law_next) (defScope s__law_next) [] [] f1 _ := ⟨⟨_, _, _, _, _, _, _, _, _, _, rfl, l1, c1, .inl ⟨rfl, rfl⟩, .inl rfl⟩, k1⟩
  have F2 : FunD K "_law_works" "_law_works" (defArgs s__law_works) (defBody s__law_works) (defScope s__law_works) [] [] f2 _ := ⟨⟨_, _, _, _, _, _, _, _, _, _, rfl, l2, c2, .inl ⟨rfl, rfl⟩, .inl rfl⟩, k2⟩
  have F3 : FunD K "_law_worn" "_law_worn" (defArgs s__law_worn) (defBody s__law_worn) (defScope s__law_worn) [] [] f3 _ := ⟨⟨_, _, _, _, _, _, _, _, _, _, rfl, l3, c3, .inl ⟨rfl, rfl⟩, .inl rfl⟩, k3⟩
  have F4 : FunD K "_law_marks" "_law_marks" (defArgs s__law_marks) (defBody s__law_marks) (defScope s__law_marks) [] [] f4 _ := ⟨⟨_, _, _, _, _, _, _, _, _, _, rfl, l4, c4, .inl ⟨rfl, rfl⟩, .inl rfl⟩, k4⟩
  have F5 : FunD K "_law_steps" "_law_steps" (defArgs s__law_steps) (defBody s__law_steps) (defScope s__law_steps) [] [] f5 _ := ⟨⟨_, _, _, _, _, _, _, _, _, _, rfl, l5, c5, .inl ⟨rfl, rfl⟩, .inl rfl⟩, k5⟩
  have F6 : FunD K "_law_pick" "_law_pick" (defArgs s__law_pick) (defBody s__law_pick) (defScope s__law_pick) [] [] f6 _ := ⟨⟨_, _, _, _, _, _, _, _, _, _, rfl, l6, c6, .inl ⟨rfl, rfl⟩, .inl rfl⟩, k6⟩
  have F7 : FunD K "_law_like" "_law_like" (defArgs s__law_like_0) (defBody s__law_like_0) (defScope s__law_like_0) [] [] f7 _ := ⟨⟨_, _, _, _, _, _, _, _, _, _, rfl, l7, c7, .inl ⟨rfl, rfl⟩, .inl rfl⟩, k7⟩
  have F8 : FunD K "_law_like" "_law_like" (defArgs s__law_like_1) (defBody s__law_like_1) (defScope s__law_like_1) [] [] f8 _ := ⟨⟨_, _, _, _, _, _, _, _, _, _, rfl, l8, c8, .inl ⟨rfl, rfl⟩, .inl rfl⟩, k8⟩
  have F9 : FunD K "_law_like" "_law_like" (defArgs s__law_like_2) (defBody s__law_like_2) (defScope s__law_like_2) [] [] f9 _ := ⟨⟨_, _, _, _, _, _, _, _, _, _, rfl, l9, c9, .inl ⟨rfl, rfl⟩, .inl rfl⟩, k9⟩
  have F10 : FunD K "_law_like" "_law_like" (defArgs s__law_like_3) (defBody s__law_like_3) (defScope s__law_like_3) [] [] f10 _ := ⟨⟨_, _, _, _, _, _, _, _, _, _, rfl, l10, c10, .inl ⟨rfl, rfl⟩, .inl rfl⟩, k10⟩
  have F11 : FunD K "_law_told" "_law_told" (defArgs s__law_told) (defBody s__law_told) (defScope s__law_told) [] [] f11 _ := ⟨⟨_, _, _, _, _, _, _, _, _, _, rfl, l11, c11, .inl ⟨rfl, rfl⟩, .inl rfl⟩, k11⟩
  have F12 : FunD K "is_arbor" "is_arbor" (defArgs s_is_arbor) (defBody s_is_arbor) (defScope s_is_arbor) [] [] f12 _ := ⟨⟨_, _, _, _, _, _, _, _, _, _, rfl, l12, c12, .inl ⟨rfl, rfl⟩, .inl rfl⟩, k12⟩
  have F13 : FunD K "need_works" "need_works" (defArgs s_need_works) (defBody s_need_works) (defScope s_need_works) [] [] f13 _ := ⟨⟨_, _, _, _, _, _, _, _, _, _, rfl, l13, c13, .inl ⟨rfl, rfl⟩, .inl rfl⟩, k13⟩
  have F14 : FunD K "is_name" "is_name" (defArgs s_is_name) (defBody s_is_name) (defScope s_is_name) [] [] f14 _ := ⟨⟨_, _, _, _, _, _, _, _, _, _, rfl, l14, c14, .inl ⟨rfl, rfl⟩, .inl rfl⟩, k14⟩
  have F15 : FunD K "need_hands" "need_hands" (defArgs s_need_hands) (defBody s_need_hands) (defScope s_need_hands) [] [] f15 _ := ⟨⟨_, _, _, _, _, _, _, _, _, _, rfl, l15, c15, .inl ⟨rfl, rfl⟩, .inl rfl⟩, k15⟩
  have F16 : FunD K "__init__" "BadSeen.__init__" (defArgs s_BadSeen___init__) (defBody s_BadSeen___init__) (defScope s_BadSeen___init__) [] [] f16 _ := ⟨⟨_, _, _, _, _, _, _, _, _, _, rfl, l16, c16, .inl ⟨rfl, rfl⟩, .inl rfl⟩, k16⟩
  have F17 : FunD K "need_beats" "need_beats" (defArgs s_need_beats) (defBody s_need_beats) (defScope s_need_beats) [.int 1000000] [] f17 _ := ⟨⟨_, _, _, _, _, _, _, _, _, _, rfl, l17, c17, .inr ⟨by simp, T17, oT17, [_], nT17, rfl, T17_, d17, .cons ⟨uT17, rfl⟩ .nil⟩, .inl rfl⟩, k17⟩
  have F18 : FunD K "need_hand" "need_hand" (defArgs s_need_hand) (defBody s_need_hand) (defScope s_need_hand) [] [] f18 _ := ⟨⟨_, _, _, _, _, _, _, _, _, _, rfl, l18, c18, .inl ⟨rfl, rfl⟩, .inl rfl⟩, k18⟩
  have F19 : FunD K "need_seen" "need_seen" (defArgs s_need_seen) (defBody s_need_seen) (defScope s_need_seen) [] [] f19 _ := ⟨⟨_, _, _, _, _, _, _, _, _, _, rfl, l19, c19, .inl ⟨rfl, rfl⟩, .inl rfl⟩, k19⟩
  have F20 : FunD K "all_single" "all_single" (defArgs s_all_single) (defBody s_all_single) (defScope s_all_single) [] [] f20 _ := ⟨⟨_, _, _, _, _, _, _, _, _, _, rfl, l20, c20, .inl ⟨rfl, rfl⟩, .inl rfl⟩, k20⟩
  have F21 : FunD K "mark_of" "mark_of" (defArgs s_mark_of) (defBody s_mark_of) (defScope s_mark_of) [] [] f21 _ := ⟨⟨_, _, _, _, _, _, _, _, _, _, rfl, l21, c21, .inl ⟨rfl, rfl⟩, .inl rfl⟩, k21⟩
  have F22 : FunD K "marks_of" "marks_of" (defArgs s_marks_of) (defBody s_marks_of) (defScope s_marks_of) [] [] f22 _ := ⟨⟨_, _, _, _, _, _, _, _, _, _, rfl, l22, c22, .inl ⟨rfl, rfl⟩, .inl rfl⟩, k22⟩
  have F23 : FunD K "passed" "passed" (defArgs s_passed) (defBody s_passed) (defScope s_passed) [] [] f23 _ := ⟨⟨_, _, _, _, _, _, _, _, _, _, rfl, l23, c23, .inl ⟨rfl, rfl⟩, .inl rfl⟩, k23⟩
  have F24 : FunD K "missed" "missed" (defArgs s_missed) (defBody s_missed) (defScope s_missed) [] [] f24 _ := ⟨⟨_, _, _, _, _, _, _, _, _, _, rfl, l24, c24, .inl ⟨rfl, rfl⟩, .inl rfl⟩, k24⟩
  have F25 : FunD K "worn_steps_of" "worn_steps_of" (defArgs s_worn_steps_of) (defBody s_worn_steps_of) (defScope s_worn_steps_of) [] [] f25 _ := ⟨⟨_, _, _, _, _, _, _, _, _, _, rfl, l25, c25, .inl ⟨rfl, rfl⟩, .inl rfl⟩, k25⟩
  have F26 : FunD K "fits" "fits" (defArgs s_fits) (defBody s_fits) (defScope s_fits) [] [] f26 _ := ⟨⟨_, _, _, _, _, _, _, _, _, _, rfl, l26, c26, .inl ⟨rfl, rfl⟩, .inl rfl⟩, k26⟩
  have F27 : FunD K "suspects" "suspects" (defArgs s_suspects) (defBody s_suspects) (defScope s_suspects) [] [] f27 _ := ⟨⟨_, _, _, _, _, _, _, _, _, _, rfl, l27, c27, .inl ⟨rfl, rfl⟩, .inl rfl⟩, k27⟩
  have F28 : FunD K "law" "law" (defArgs s_law) (defBody s_law) (defScope s_law) [] [] fa _ := ⟨⟨_, _, _, _, _, _, _, _, _, _, rfl, l28, c28, .inl ⟨rfl, rfl⟩, .inl rfl⟩, k28⟩
  refine ⟨_, _, _, _, CL, PL, _, _, _, _, l28, rfl, lC, vP, hC, nP, fun s v => FunD.bindsA (ps := ["_law_script"]) F28 (fun _ _ _ _ _ _ us hl => match us, hl with | [_], _ => rfl) s [v] rfl, fun base _ _ B => ?_⟩
  have h__law_dice : Has l.prog w K mg base 1 "_law_dice" (["_law_script"] : List Str) [] (spT (WD K) mg 0 1 f__law_dice) := ⟨f0, _, [], ok__law_dice F0 z_int z_len, PySem.W.mg_of X G a0, k0, .nil, FunD.bindsN F0 fun _ _ _ _ _ _ us hl => match us, hl with | [_], _ => rfl⟩
  have h__law_next : Has l.prog w K mg base 1 "_law_next" (["_law_dice_here", "_law_many"] : List Str) [] (spT (WD K) mg 1 2 f__law_next) := ⟨f1, _, [], ok__law_next F1 z_len, PySem.W.mg_of X G a1, k1, .nil, FunD.bindsN F1 fun _ _ _ _ _ _ us hl => match us, hl with | [_, _], _ => rfl⟩
  have h__law_works : Has l.prog w K mg base 2 "_law_works" (["_law_d", "_law_upto", "_law_teeth"] : List Str) [] (spT (WD K) mg 1 3 f__law_works) := ⟨f2, _, [], ok__law_works F2 z_range z_tuple h__law_next, PySem.W.mg_of X G a2, k2, .nil, FunD.bindsN F2 fun _ _ _ _ _ _ us hl => match us, hl with | [_, _, _], _ => rfl⟩
  have h__law_worn : Has l.prog w K mg base 2 "_law_worn" (["_law_d", "_law_works_here", "_law_upto"] : List Str) [] (spT (WD K) mg 1 3 f__law_worn) := ⟨f3, _, [], ok__law_worn F3 z_range z_len z_tuple z_sorted z_set h__law_next, PySem.W.mg_of X G a3, k3, .nil, FunD.bindsN F3 fun _ _ _ _ _ _ us hl => match us, hl with | [_, _, _], _ => rfl⟩
  have h__law_marks : Has l.prog w K mg base 1 "_law_marks" (["_law_works_here", "_law_hands", "_law_made"] : List Str) [] (spP K mg 3 f__law_marks) := ⟨f4, _, [], ok__law_marks F4, PySem.W.mg_of X G a4, k4, .nil, FunD.bindsN F4 fun _ _ _ _ _ _ us hl => match us, hl with | [_, _, _], _ => rfl⟩
  have h__law_steps : Has l.prog w K mg base 1 "_law_steps" (["_law_works_here", "_law_worn_here", "_law_count"] : List Str) [] (spP K mg 3 f__law_steps) := ⟨f5, _, [], ok__law_steps F5 z_range z_len, PySem.W.mg_of X G a5, k5, .nil, FunD.bindsN F5 fun _ _ _ _ _ _ us hl => match us, hl with | [_, _, _], _ => rfl⟩
  have h__law_pick : Has l.prog w K mg base 2 "_law_pick" (["_law_d", "_law_some"] : List Str) [] (spT (WD K) mg 1 2 f__law_pick) := ⟨f6, _, [], ok__law_pick F6 z_len h__law_next, PySem.W.mg_of X G a6, k6, .nil, FunD.bindsN F6 fun _ _ _ _ _ _ us hl => match us, hl with | [_, _], _ => rfl⟩
  have h__law_like_0 : Has l.prog w K mg base 1 "_law_like" (["_law_found", "_law_due"] : List Str) [] (spP K mg 2 f__law_like_0) := ⟨f7, _, [], ok__law_like_0 F7 z_isinstance z_tuple z_list z_bool z_int z_str, PySem.W.mg_of X G a7, k7, .nil, FunD.bindsN F7 fun _ _ _ _ _ _ us hl => match us, hl with | [_, _], _ => rfl⟩
  have h__law_like_1 : Has l.prog w K mg base 2 "_law_like" (["_law_found", "_law_due"] : List Str) [] (spP K mg 2 f__law_like_1) := ⟨f8, _, [], ok__law_like_1 F8 z_isinstance z_tuple z_list z_len z_range z_bool z_int z_str h__law_like_0, PySem.W.mg_of X G a8, k8, .nil, FunD.bindsN F8 fun _ _ _ _ _ _ us hl => match us, hl with | [_, _], _ => rfl⟩
  have h__law_like_2 : Has l.prog w K mg base 3 "_law_like" (["_law_found", "_law_due"] : List Str) [] (spP K mg 2 f__law_like_2) := ⟨f9, _, [], ok__law_like_2 F9 z_isinstance z_tuple z_list z_len z_range z_bool z_int z_str h__law_like_1, PySem.W.mg_of X G a9, k9, .nil, FunD.bindsN F9 fun _ _ _ _ _ _ us hl => match us, hl with | [_, _], _ => rfl⟩
  have h__law_like_3 : Has l.prog w K mg base 4 "_law_like" (["_law_found", "_law_due"] : List Str) [] (spP K mg 2 f__law_like_3) := ⟨f10, _, [], ok__law_like_3 F10 z_isinstance z_tuple z_list z_len z_range z_bool z_int z_str h__law_like_2, PySem.W.mg_of X G a10, k10, .nil, FunD.bindsN F10 fun _ _ _ _ _ _ us hl => match us, hl with | [_, _], _ => rfl⟩
  have h__law_told_t : HasTA K mg "_law_told" ns_told na_told := ⟨f11, _, _, _, _, n__law_told, "_law_work", F11, PySem.W.mg_of X G a11, k11, FunD.bindsN F11 (fun _ _ _ _ _ _ us hl => match us, hl with | [_], _ => rfl), sc__law_told, rfl, .inl rfl, by decide, by decide, fun Y cdg q hK hM => ok__law_told hK hM e_BadWorks e_BadHands e_BadWorn e_BadSeen e_BadDeed e_BadBeats e_NoHand e_BadCalendar e_BadDays e_NoDate e_BadYears e_BadPlaces e_BadLevels e_BadMark e_Taken e_NotWorn e_BadText e_WorksError z_isinstance xf_BadSeen no_BadSeen  xc_BadSeen xb_BadSeen xw_BadSeen q_BadSeen_BadWorks q_BadSeen_BadHands q_BadSeen_BadWorn q_BadSeen_BadSeen q_BadSeen_BadDeed q_BadSeen_BadBeats q_BadSeen_NoHand q_BadSeen_BadCalendar q_BadSeen_BadDays q_BadSeen_NoDate q_BadSeen_BadYears q_BadSeen_BadPlaces q_BadSeen_BadLevels q_BadSeen_BadMark q_BadSeen_Taken q_BadSeen_NotWorn⟩
  have h_is_arbor : Has l.prog w K mg base 1 "is_arbor" (["number", "arbor"] : List Str) [] (spP K mg 2 f_is_arbor) := ⟨f12, _, [], ok_is_arbor F12 g_MOST_TEETH g_LEAST_TEETH, PySem.W.mg_of X G a12, k12, .nil, FunD.bindsN F12 fun _ _ _ _ _ _ us hl => match us, hl with | [_, _], _ => rfl⟩
  have h_need_works : Has l.prog w K mg base 2 "need_works" (["works"] : List Str) [] (spP K mg 1 f_need_works) := ⟨f13, _, [], ok_need_works F13 g_MOST_ARBORS z_len z_enumerate h_is_arbor, PySem.W.mg_of X G a13, k13, .nil, FunD.bindsN F13 fun _ _ _ _ _ _ us hl => match us, hl with | [_], _ => rfl⟩
  have h_is_name : Has l.prog w K mg base 1 "is_name" (["name"] : List Str) [] (spP K mg 1 f_is_name) := ⟨f14, _, [], ok_is_name F14 g_MOST_NAME g_LETTERS z_len, PySem.W.mg_of X G a14, k14, .nil, FunD.bindsN F14 fun _ _ _ _ _ _ us hl => match us, hl with | [_], _ => rfl⟩
  have h_need_hands : Has l.prog w K mg base 2 "need_hands" (["works", "hands"] : List Str) [] (spP K mg 2 f_need_hands) := ⟨f15, _, [], ok_need_hands F15 g_MOST_HANDS g_MOST_MARKS z_enumerate z_len h_is_name, PySem.W.mg_of X G a15, k15, .nil, FunD.bindsN F15 fun _ _ _ _ _ _ us hl => match us, hl with | [_, _], _ => rfl⟩
  have h_BadSeen___init___ih : HasIH l.prog w K mg base 1 e_BadSeen_ "at" := ⟨oexB_ok ox_BadSeen, f16, _, _, a16, y16, okH_BadSeen___init__ F16 e_WorksError ib_ (oexB_ok ox_BadSeen) no_BadSeen, FunD.bindsN F16 fun _ _ _ _ _ _ us hl => match us, hl with | [_, _], _ => rfl⟩
  have h_BadSeen___init___i : HasI l.prog w K mg base 1 e_BadSeen_ "at" := ⟨oexB_ok ox_BadSeen, f16, _, _, a16, y16, ok_BadSeen___init__ F16 e_WorksError ib_ (oexB_ok ox_BadSeen) no_BadSeen, FunD.bindsN F16 fun _ _ _ _ _ _ us hl => match us, hl with | [_, _], _ => rfl⟩
  have h_need_beats_n1 : HasN l.prog w K mg base 1 "need_beats" (["beats", "most"] : List Str) [.int 1000000] (spP K mg 2 f_need_beats) := by
    obtain ⟨ds, hv, hb⟩ := FunD.binds1 (ps := (["beats", "most"] : List Str)) F17 1 0 (by simp) rfl fun _ _ _ _ _ _ _ us its hu hi => match us, its, hu, hi with | [_], [_], _, _ => ⟨_, rfl, rfl⟩
    exact ⟨f17, _, ds, okN_need_beats F17 e_BadBeats p_BadBeats, PySem.W.mg_of X G a17, k17, hv, hb⟩
  have h_need_hand_n0 : HasN l.prog w K mg base 1 "need_hand" (["hands", "number"] : List Str) [] (spP K mg 2 f_need_hand) := ⟨f18, _, [], okN_need_hand F18 z_len e_NoHand p_NoHand, PySem.W.mg_of X G a18, k18, .nil, FunD.bindsN F18 fun _ _ _ _ _ _ us hl => match us, hl with | [_, _], _ => rfl⟩
  have h_need_seen : Has l.prog w K mg base 3 "need_seen" (["hands", "seen"] : List Str) [] (spP K mg 2 f_need_seen) := ⟨f19, _, [], ok_need_seen F19 z_enumerate e_BadSeen e_BadBeats e_WorksError e_NoHand xt_BadBeats_WorksError sb_BadBeats xt_NoHand_WorksError sb_NoHand h_BadSeen___init___ih h_need_beats_n1 h_need_hand_n0 h_BadSeen___init___i, PySem.W.mg_of X G a19, k19, .nil, FunD.bindsN F19 fun _ _ _ _ _ _ us hl => match us, hl with | [_, _], _ => rfl⟩
  have h_all_single : Has l.prog w K mg base 1 "all_single" (["works"] : List Str) [] (spP K mg 1 f_all_single) := ⟨f20, _, [], ok_all_single F20 z_range z_len, PySem.W.mg_of X G a20, k20, .nil, FunD.bindsN F20 fun _ _ _ _ _ _ us hl => match us, hl with | [_], _ => rfl⟩
  have h_mark_of : Has l.prog w K mg base 1 "mark_of" (["works", "hand", "made"] : List Str) [] (spP K mg 3 f_mark_of) := ⟨f21, _, [], ok_mark_of F21, PySem.W.mg_of X G a21, k21, .nil, FunD.bindsN F21 fun _ _ _ _ _ _ us hl => match us, hl with | [_, _, _], _ => rfl⟩
  have h_marks_of : Has l.prog w K mg base 2 "marks_of" (["works", "hands", "made"] : List Str) [] (spP K mg 3 f_marks_of) := ⟨f22, _, [], ok_marks_of F22 h_mark_of, PySem.W.mg_of X G a22, k22, .nil, FunD.bindsN F22 fun _ _ _ _ _ _ us hl => match us, hl with | [_, _, _], _ => rfl⟩
  have h_passed : Has l.prog w K mg base 1 "passed" (["works", "arbor", "made"] : List Str) [] (spP K mg 3 f_passed) := ⟨f23, _, [], ok_passed F23, PySem.W.mg_of X G a23, k23, .nil, FunD.bindsN F23 fun _ _ _ _ _ _ us hl => match us, hl with | [_, _, _], _ => rfl⟩
  have h_missed : Has l.prog w K mg base 1 "missed" (["teeth", "drives", "begin", "end"] : List Str) [] (spP K mg 4 f_missed) := ⟨f24, _, [], ok_missed F24 z_sum, PySem.W.mg_of X G a24, k24, .nil, FunD.bindsN F24 fun _ _ _ _ _ _ us hl => match us, hl with | [_, _, _, _], _ => rfl⟩
  have h_worn_steps_of : Has l.prog w K mg base 2 "worn_steps_of" (["works", "worn", "beats"] : List Str) [] (spP K mg 3 f_worn_steps_of) := ⟨f25, _, [], ok_worn_steps_of F25 z_range z_len h_passed h_missed, PySem.W.mg_of X G a25, k25, .nil, FunD.bindsN F25 fun _ _ _ _ _ _ us hl => match us, hl with | [_, _, _], _ => rfl⟩
  have h_fits : Has l.prog w K mg base 3 "fits" (["works", "hands", "worn", "seen"] : List Str) [] (spP K mg 4 f_fits) := ⟨f26, _, [], ok_fits F26 h_worn_steps_of h_marks_of, PySem.W.mg_of X G a26, k26, .nil, FunD.bindsN F26 fun _ _ _ _ _ _ us hl => match us, hl with | [_, _, _, _], _ => rfl⟩
  have h_suspects : Has l.prog w K mg base 4 "suspects" (["works", "hands", "seen"] : List Str) [] (spP K mg 3 f_suspects) := ⟨f27, _, [], ok_suspects F27 h_need_works h_need_hands h_need_seen h_all_single h_fits, PySem.W.mg_of X G a27, k27, .nil, FunD.bindsN F27 fun _ _ _ _ _ _ us hl => match us, hl with | [_, _, _], _ => rfl⟩
  exact ok_law l28 c28 B z_range z_tuple z_len z_int h__law_dice h__law_works h__law_next h__law_worn h__law_steps h__law_marks h__law_pick h__law_told_t h_suspects h__law_like_3
end CWL
open PySem PySem.W PyProof.Rows in
set_option maxRecDepth 100000 in
set_option maxHeartbeats 0 in
theorem PySem.Challenge.cw_clockworks_k07_suspects_told_holds : PySem.Challenge.rw_clockworks_k07_suspects_told.Holds := by
  w_on; o_law; k_head; (case hw => w_witness2)
  k_fill
  refine CW.walkT (x := "_law_script") (l := PySem.Challenge.rw_clockworks_k07_suspects_told) 7 rfl rfl ⟨rfl, by decide, by decide⟩ (by rfl) (fun w h Y => PySem.W.km_in_of Y) ?F
  case F =>
    intro w mg fa h KX G hmg
    refine' CWL.all_mk KX G hmg ?ax_BadWorks ?ax_BadHands ?ax_BadWorn ?ax_BadSeen ?ax_BadDeed ?ax_BadBeats ?ax_NoHand ?ax_BadCalendar ?ax_BadDays ?ax_NoDate ?ax_BadYears ?ax_BadPlaces ?ax_BadLevels ?ax_BadMark ?ax_Taken ?ax_NotWorn ?ax_BadText ?ax_WorksError ?a0 ?l0 ?c0 ?k0 ?a1 ?l1 ?c1 ?k1 ?a2 ?l2 ?c2 ?k2 ?a3 ?l3 ?c3 ?k3 ?a4 ?l4 ?c4 ?k4 ?a5 ?l5 ?c5 ?k5 ?a6 ?l6 ?c6 ?k6 ?a7 ?l7 ?c7 ?k7 ?a8 ?l8 ?c8 ?k8 ?a9 ?l9 ?c9 ?k9 ?a10 ?l10 ?c10 ?k10 ?a11 ?l11 ?c11 ?k11 ?a12 ?l12 ?c12 ?k12 ?a13 ?l13 ?c13 ?k13 ?a14 ?l14 ?c14 ?k14 ?a15 ?l15 ?c15 ?k15 ?a16 ?y16 ?no_BadSeen ?l16 ?c16 ?k16 ?a17 ?l17 ?T17_ ?c17 ?k17 ?d17 ?a18 ?l18 ?c18 ?k18 ?a19 ?l19 ?c19 ?k19 ?a20 ?l20 ?c20 ?k20 ?a21 ?l21 ?c21 ?k21 ?a22 ?l22 ?c22 ?k22 ?a23 ?l23 ?c23 ?k23 ?a24 ?l24 ?c24 ?k24 ?a25 ?l25 ?c25 ?k25 ?a26 ?l26 ?c26 ?k26 ?a27 ?l27 ?c27 ?k27 ?a28 ?l28 ?c28 ?k28 ?p_BadBeats ?p_NoHand ?ox_BadSeen ?xf_BadSeen ?xt_BadBeats_WorksError ?sb_BadBeats ?xt_NoHand_WorksError ?sb_NoHand ?ib_ ?xc_BadSeen ?xb_BadSeen ?xw_BadSeen ?q_BadSeen_BadWorks ?q_BadSeen_BadHands ?q_BadSeen_BadWorn ?q_BadSeen_BadSeen ?q_BadSeen_BadDeed ?q_BadSeen_BadBeats ?q_BadSeen_NoHand ?q_BadSeen_BadCalendar ?q_BadSeen_BadDays ?q_BadSeen_NoDate ?q_BadSeen_BadYears ?q_BadSeen_BadPlaces ?q_BadSeen_BadLevels ?q_BadSeen_BadMark ?q_BadSeen_Taken ?q_BadSeen_NotWorn ?lC ?vP ?hC ?nP ?g_MOST_TEETH ?g_LEAST_TEETH ?g_MOST_ARBORS ?g_MOST_NAME ?g_LETTERS ?g_MOST_HANDS ?g_MOST_MARKS ?z_int ?z_len ?z_range ?z_tuple ?z_sorted ?z_set ?z_isinstance ?z_list ?z_bool ?z_str ?z_enumerate ?z_sum
    (case ax_BadWorks => k_is)
    (case ax_BadHands => k_is)
    (case ax_BadWorn => k_is)
    (case ax_BadSeen => k_is)
    (case ax_BadDeed => k_is)
    (case ax_BadBeats => k_is)
    (case ax_NoHand => k_is)
    (case ax_BadCalendar => k_is)
    (case ax_BadDays => k_is)
    (case ax_NoDate => k_is)
    (case ax_BadYears => k_is)
    (case ax_BadPlaces => k_is)
    (case ax_BadLevels => k_is)
    (case ax_BadMark => k_is)
    (case ax_Taken => k_is)
    (case ax_NotWorn => k_is)
    (case ax_BadText => k_is)
    (case ax_WorksError => k_is)
    (case a0 => k_is)
    (case l0 => k_is)
    (case c0 => k_is)
    (case k0 => k_is)
    (case a1 => k_is)
    (case l1 => k_is)
    (case c1 => k_is)
    (case k1 => k_is)
    (case a2 => k_is)
    (case l2 => k_is)
    (case c2 => k_is)
    (case k2 => k_is)
    (case a3 => k_is)
    (case l3 => k_is)
    (case c3 => k_is)
    (case k3 => k_is)
    (case a4 => k_is)
    (case l4 => k_is)
    (case c4 => k_is)
    (case k4 => k_is)
    (case a5 => k_is)
    (case l5 => k_is)
    (case c5 => k_is)
    (case k5 => k_is)
    (case a6 => k_is)
    (case l6 => k_is)
    (case c6 => k_is)
    (case k6 => k_is)
    (case a7 => k_is)
    (case l7 => k_is)
    (case c7 => k_is)
    (case k7 => k_is)
    (case a8 => k_is)
    (case l8 => k_is)
    (case c8 => k_is)
    (case k8 => k_is)
    (case a9 => k_is)
    (case l9 => k_is)
    (case c9 => k_is)
    (case k9 => k_is)
    (case a10 => k_is)
    (case l10 => k_is)
    (case c10 => k_is)
    (case k10 => k_is)
    (case a11 => k_is)
    (case l11 => k_is)
    (case c11 => k_is)
    (case k11 => k_is)
    (case a12 => k_is)
    (case l12 => k_is)
    (case c12 => k_is)
    (case k12 => k_is)
    (case a13 => k_is)
    (case l13 => k_is)
    (case c13 => k_is)
    (case k13 => k_is)
    (case a14 => k_is)
    (case l14 => k_is)
    (case c14 => k_is)
    (case k14 => k_is)
    (case a15 => k_is)
    (case l15 => k_is)
    (case c15 => k_is)
    (case k15 => k_is)
    (case a16 => k_is)
    (case y16 => k_is)
    (case no_BadSeen => k_is)
    (case l16 => k_is)
    (case c16 => k_is)
    (case k16 => k_is)
    (case a17 => k_is)
    (case l17 => k_is)
    (case T17_ => k_is)
    (case c17 => k_is)
    (case k17 => k_is)
    (case d17 => rfl)
    (case a18 => k_is)
    (case l18 => k_is)
    (case c18 => k_is)
    (case k18 => k_is)
    (case a19 => k_is)
    (case l19 => k_is)
    (case c19 => k_is)
    (case k19 => k_is)
    (case a20 => k_is)
    (case l20 => k_is)
    (case c20 => k_is)
    (case k20 => k_is)
    (case a21 => k_is)
    (case l21 => k_is)
    (case c21 => k_is)
    (case k21 => k_is)
    (case a22 => k_is)
    (case l22 => k_is)
    (case c22 => k_is)
    (case k22 => k_is)
    (case a23 => k_is)
    (case l23 => k_is)
    (case c23 => k_is)
    (case k23 => k_is)
    (case a24 => k_is)
    (case l24 => k_is)
    (case c24 => k_is)
    (case k24 => k_is)
    (case a25 => k_is)
    (case l25 => k_is)
    (case c25 => k_is)
    (case k25 => k_is)
    (case a26 => k_is)
    (case l26 => k_is)
    (case c26 => k_is)
    (case k26 => k_is)
    (case a27 => k_is)
    (case l27 => k_is)
    (case c27 => k_is)
    (case k27 => k_is)
    (case a28 => k_is)
    (case l28 => k_is)
    (case c28 => k_is)
    (case k28 => k_is)
    (case p_BadBeats => kernel_rfl)
    (case p_NoHand => kernel_rfl)
    (case ox_BadSeen => kernel_rfl)
    (case xf_BadSeen => kernel_rfl)
    (case xt_BadBeats_WorksError => kernel_rfl)
    (case sb_BadBeats => kernel_rfl)
    (case xt_NoHand_WorksError => kernel_rfl)
    (case sb_NoHand => kernel_rfl)
    (case ib_ => kernel_rfl)
    (case xc_BadSeen => kernel_rfl)
    (case xb_BadSeen => kernel_rfl)
    (case xw_BadSeen => kernel_rfl)
    (case q_BadSeen_BadWorks => kernel_rfl)
    (case q_BadSeen_BadHands => kernel_rfl)
    (case q_BadSeen_BadWorn => kernel_rfl)
    (case q_BadSeen_BadSeen => kernel_rfl)
    (case q_BadSeen_BadDeed => kernel_rfl)
    (case q_BadSeen_BadBeats => kernel_rfl)
    (case q_BadSeen_NoHand => kernel_rfl)
    (case q_BadSeen_BadCalendar => kernel_rfl)
    (case q_BadSeen_BadDays => kernel_rfl)
    (case q_BadSeen_NoDate => kernel_rfl)
    (case q_BadSeen_BadYears => kernel_rfl)
    (case q_BadSeen_BadPlaces => kernel_rfl)
    (case q_BadSeen_BadLevels => kernel_rfl)
    (case q_BadSeen_BadMark => kernel_rfl)
    (case q_BadSeen_Taken => kernel_rfl)
    (case q_BadSeen_NotWorn => kernel_rfl)
    (case lC => k_is)
    (case vP => rfl)
    (case hC => kernel_rfl)
    (case nP => kernel_rfl)
    (case g_MOST_TEETH => k_is)
    (case g_LEAST_TEETH => k_is)
    (case g_MOST_ARBORS => k_is)
    (case g_MOST_NAME => k_is)
    (case g_LETTERS => k_is)
    (case g_MOST_HANDS => k_is)
    (case g_MOST_MARKS => k_is)
    (case z_int => k_is)
    (case z_len => k_is)
    (case z_range => k_is)
    (case z_tuple => k_is)
    (case z_sorted => k_is)
    (case z_set => k_is)
    (case z_isinstance => k_is)
    (case z_list => k_is)
    (case z_bool => k_is)
    (case z_str => k_is)
    (case z_enumerate => k_is)
    (case z_sum => k_is)
