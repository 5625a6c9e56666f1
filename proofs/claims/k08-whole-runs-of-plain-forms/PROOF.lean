import PyProof.Rows.All
import Wide.All
import OpenK.AllK
import Wide.FinOn
import HandS.ForMost
import HandS.ForExc
import HandS.Zip
import HandS.IsInst
import HandS.Flow
import HandS.Wide
import HandS.Conv
import HandS.Deep
import HandS.Style
import HandS.TupAny
import HandS.TupMul
import HandS.EndBits
import HandS.CallSlots
import HandS.HeadHook2
import PyProof.ReprReads
import PyProof.StrLawsRepr
import PyProof.CallFns
import HandS.SetFor
import KE.GoesEnum
import HandS.Ends
import HandS.HeadEnd
import HandS.HeadHook1
import HandS.Words
import HandS.Head0
import HandS.Head1
import HandS.Head2
import KE.KStateDown
import PySem.Challenge.RW_antiphon_k08_whole_runs_of_plain_forms
set_option Elab.async false
section
set_option linter.all false
set_option maxRecDepth 100000
/-! Ev: a small evaluator of a part of Python over trees of data. Values, heap, syntax, run. -/
namespace Ev

/-- data: tuples are trees; ref: a list, a dict or an instance by its number; scr: the law's script -/
inductive D where
  | non | bl (b : Bool) | int (i : Int) | str (c : Nat) | txt (s : PySem.Str) | tup (xs : List D) | ref (n : Nat) | scr (ns : List Int) | fn (c : Nat)

inductive Ky where
  | i (n : Int) | s (c : Nat)
  deriving DecidableEq

/-- what stands in the heap -/
inductive LO where
  | lst (xs : List D) | dic (kvs : List (Ky × D)) | ins (c : Nat) (fs : List (Nat × D))
abbrev LH := List LO
abbrev Env := List (Option D)

inductive R (α : Type) where
  | ok (a : α) (L : LH) | exc (c : Nat) (L : LH) | bad
def R.bind {α β : Type} (m : R α) (f : α → LH → R β) : R β := match m with
  | .ok a L => f a L
  | .exc c L => .exc c L
  | .bad => .bad
/-- exceptions are not carried -/
def R.calm {α : Type} (m : R α) : R α := match m with
  | .ok a L => .ok a L
  | _ => .bad
theorem R.bind_ok {α β : Type} {a : α} {L : LH} {f : α → LH → R β} : (R.ok a L).bind f = f a L := rfl
theorem R.bind_exc {α β : Type} {c : Nat} {L : LH} {f : α → LH → R β} : (R.exc c L).bind f = R.exc c L := rfl
theorem R.calm_ok {α : Type} {a : α} {L : LH} : (R.ok a L).calm = R.ok a L := rfl

inductive Op where
  | add | sub | mul | fdiv | mod | pow
inductive Cm where
  | eq | ne | lt | le | gt | ge | isin | notin
inductive Ty where
  | int | bool | str | tuple
inductive Bf where
  | len | abs | int | tuple | list | sum | max | min | sorted | repr
inductive Bm where
  | append | count | index | get
inductive Src where
  | seq | rng1 | rng2 | zip | enm
inductive Tg where
  | name (i : Nat) | fld (i f : Nat) | tup (ts : List Tg)

inductive E where
  | var (i : Nat) | non | bl (b : Bool) | int (i : Int) | str (c : Nat) | glo (g : Nat)
  | tup (es : List E) | lst (es : List E) | dic (ks : List Nat) (es : List E)
  | bin (o : Op) (a b : E) | neg (a : E) | cmp (o : Cm) (a b : E) | chn (o o' : Cm) (a b c : E)
  | isn (ng : Bool) (a : E) | isb (ng b : Bool) (a : E)
  | and (a b : E) | or (a b : E) | not (a : E) | ite (c a b : E)
  | fld (a : E) (f : Nat) | idx (a b : E) | slf (a b : E) | slt (a b : E) | rev (a : E)
  | call (f : Nat) (es : List E) | callv (i : Nat) (es : List E) | mk (c : Nat) (es : List E) | mth (o : E) (m : Nat) (es : List E)
  | bm (m : Bm) (o : E) (es : List E) | bf (b : Bf) (es : List E) | isi (a : E) (t : Ty)
  | lc (tg : Tg) (own : List Nat) (src : Src) (es : List E) (cond : List E) (e : E)
  | lc2 (tg : Tg) (own : List Nat) (src : Src) (es : List E) (tg1 : Tg) (own1 : List Nat) (src1 : Src) (es1 : List E) (e : E)

inductive S where
  | pass | expr (e : E) | ret (e : E) | retn
  | set (i : Nat) (e : E) | setT (tg : Tg) (e : E) | par (i j : Nat) (a b : E)
  | setF (o : E) (f : Nat) (e : E) | setI (o i e : E)
  | aug (i : Nat) (o : Op) (e : E) | augF (a : E) (f : Nat) (o : Op) (e : E)
  | ite (c : E) (a b : List S)
  | for (tg : Tg) (src : Src) (es : List E) (b : List S)
  | whl (c : E) (b : List S)
  | brk | cnt
  | raise (c : Nat)
  | never

structure Def where
  np : Nat
  nl : Nat
  body : List S

structure Cfg where
  /-- the written texts, by number -/
  tab : List PySem.Str
  /-- the module's constants -/
  glo : Nat → D
  defs : Nat → Option Def
  /-- a class's __init__ -/
  ini : Nat → Option Nat
  mth : Nat → Nat → Option Nat
  /-- which def a name stands for, as a value -/
  fnm : Nat → Option Nat
  /-- which attributes instances of a class may have -/
  fld : Nat → Nat → Bool

/-! ### values -/
mutual
/-- data without objects -/
def D.pure : D → Bool
  | .ref _ => false
  | .scr _ => false
  | .fn _ => false
  | .tup xs => D.pures xs
  | .txt _ => false
  | _ => true
def D.pures : List D → Bool
  | [] => true
  | x :: xs => x.pure && D.pures xs
end
mutual
def D.eqv : D → D → Bool
  | .non, .non => true
  | .bl a, .bl b => a == b
  | .bl a, .int j => (if a then 1 else 0) == j
  | .int i, .bl b => i == (if b then 1 else 0)
  | .int i, .int j => i == j
  | .str c, .str c' => c == c'
  | .tup xs, .tup ys => D.eqvs xs ys
  | _, _ => false
def D.eqvs : List D → List D → Bool
  | [], [] => true
  | x :: xs, y :: ys => x.eqv y && D.eqvs xs ys
  | _, _ => false
end
mutual
def D.dep : D → Nat
  | .tup xs => 1 + D.deps xs
  | _ => 1
def D.deps : List D → Nat
  | [] => 0
  | x :: xs => max x.dep (D.deps xs)
end
def isTrue (L : LH) : D → Option Bool
  | .non => some false
  | .bl b => some b
  | .int i => some (decide (i ≠ 0))
  | .tup xs => some (!xs.isEmpty)
  | .ref n => match L[n]? with
    | some (.lst xs) => some (!xs.isEmpty)
    | some (.dic kvs) => some (!kvs.isEmpty)
    | _ => none
  | _ => none
def most : Nat := 16777216
def toSeq (L : LH) : D → Option (List D)
  | .tup xs => some xs
  | .ref n => match L[n]? with
    | some (.lst xs) => some xs
    | _ => none
  | _ => none
/-- python's index -/
def atI (xs : List D) (i : Int) : Option D := if 0 ≤ i then xs[i.toNat]? else if -(xs.length : Int) ≤ i then xs[(i + xs.length).toNat]? else none
def keyOf : D → Option Ky
  | .int i => some (.i i)
  | .str c => some (.s c)
  | _ => none
def putK {κ : Type} [DecidableEq κ] (k : κ) (v : D) : List (κ × D) → List (κ × D)
  | [] => [(k, v)]
  | (k', v') :: r => if k' = k then (k, v) :: r else (k', v') :: putK k v r
def getK {κ : Type} [DecidableEq κ] (k : κ) : List (κ × D) → Option D
  | [] => none
  | (k', v') :: r => if k = k' then some v' else getK k r

def okB (L : LH) (b : Option Bool) : R D := match b with
  | some b => .ok (.bl b) L
  | none => .bad
def okD (L : LH) (d : Option D) : R D := match d with
  | some d => .ok d L
  | none => .bad

def eqR (L : LH) (a b : D) : Option Bool :=
  match a, b with
  | .ref n, .ref m => match L[n]?, L[m]? with
    | some (.lst xs), some (.lst ys) => if D.pures xs && D.pures ys && decide (D.deps xs ≤ 180) then some (D.eqvs xs ys) else none
    | _, _ => none
  | .txt x, .txt y => some (decide (x = y))
  | a, b => if a.pure && b.pure && decide (a.dep ≤ 180) then some (a.eqv b) else none
def inR (L : LH) (a b : D) : Option Bool := match b with
  | .ref n => match L[n]? with
    | some (.lst xs) => if a.pure && D.pures xs && decide (D.deps xs ≤ 180) then some (xs.any fun x => x.eqv a) else none
    | some (.dic kvs) => match keyOf a with
      | some k => some (getK k kvs).isSome
      | none => none
    | _ => none
  | .tup xs => if a.pure && D.pures xs && decide (D.deps xs ≤ 180) then some (xs.any fun x => x.eqv a) else none
  | _ => none
def cmpR (o : Cm) (L : LH) (a b : D) : Option Bool := match o with
  | .eq => eqR L a b
  | .ne => (eqR L a b).map (!·)
  | .isin => inR L a b
  | .notin => (inR L a b).map (!·)
  | .lt => match a, b with | .int i, .int j => some (decide (i < j)) | _, _ => none
  | .le => match a, b with | .int i, .int j => some (decide (i ≤ j)) | _, _ => none
  | .gt => match a, b with | .int i, .int j => some (decide (j < i)) | _, _ => none
  | .ge => match a, b with | .int i, .int j => some (decide (j ≤ i)) | _, _ => none
def binR (o : Op) (L : LH) (a b : D) : R D := match o with
  | .add => match a, b with
    | .int i, .int j => .ok (.int (i + j)) L
    | .tup xs, .tup ys => if xs.length + ys.length ≤ most then .ok (.tup (xs ++ ys)) L else .bad
    | .ref n, .ref m => match L[n]?, L[m]? with
      | some (.lst xs), some (.lst ys) => if xs.length + ys.length ≤ most then .ok (.ref L.length) (L ++ [.lst (xs ++ ys)]) else .bad
      | _, _ => .bad
    | _, _ => .bad
  | .sub => match a, b with
    | .int i, .int j => .ok (.int (i - j)) L
    | _, _ => .bad
  | .mul => match a, b with
    | .int i, .int j => if (-(2 ^ 64) < i ∧ i < 2 ^ 64) ∨ (-(2 ^ 64) < j ∧ j < 2 ^ 64) then .ok (.int (i * j)) L else .bad
    | .tup xs, .int k => if 2 ≤ k ∧ k ≤ 1000 ∧ xs.length ≤ 1000 ∧ xs.isEmpty = false then .ok (.tup (List.replicate k.toNat xs).flatten) L else .bad
    | .ref n, .int k => match L[n]? with
      | some (.lst xs) => if 0 ≤ k ∧ k < 1000 ∧ xs.length < 1000 then .ok (.ref L.length) (L ++ [.lst (List.replicate k.toNat xs).flatten]) else .bad
      | _ => .bad
    | _, _ => .bad
  | .fdiv => match a, b with
    | .int i, .int j => if 0 < j ∧ j < 1073741824 then .ok (.int (i / j)) L else .bad
    | _, _ => .bad
  | .mod => match a, b with
    | .int i, .int j => if 0 < j then .ok (.int (i % j)) L else .bad
    | _, _ => .bad
  | .pow => match a, b with
    | .int i, .int j => if 0 ≤ i ∧ i < 100 ∧ 0 ≤ j ∧ j < 100 then .ok (.int (i ^ j.toNat)) L else .bad
    | _, _ => .bad
def idxR (L : LH) (a b : D) : Option D := match a, b with
  | .tup xs, .int i => atI xs i
  | .ref n, b => match L[n]? with
    | some (.lst xs) => match b with
      | .int i => atI xs i
      | _ => none
    | some (.dic kvs) => match keyOf b with
      | some k => getK k kvs
      | none => none
    | _ => none
  | _, _ => none
/-- from a place on; up to a place (both not below 0) -/
def sliR (L : LH) (fr : Bool) (a b : D) : R D := match b with
  | .int i => if 0 ≤ i ∧ i < 1000000000 then
      (match a with
      | .tup xs => .ok (.tup (if fr then xs.drop i.toNat else xs.take i.toNat)) L
      | .ref n => match L[n]? with
        | some (.lst xs) => .ok (.ref L.length) (L ++ [.lst (if fr then xs.drop i.toNat else xs.take i.toNat)])
        | _ => .bad
      | _ => .bad) else .bad
  | _ => .bad
def fldR (cfg : Cfg) (L : LH) (a : D) (f : Nat) : Option D := match a with
  | .ref n => match L[n]? with
    | some (.ins c fs) => if cfg.fld c f then getK f fs else none
    | _ => none
  | _ => none
def setFR (cfg : Cfg) (L : LH) (a : D) (f : Nat) (v : D) : Option LH := match a with
  | .ref n => match L[n]? with
    | some (.ins c fs) => if cfg.fld c f && decide (fs.length < 100) then some (L.set n (.ins c (putK f v fs))) else none
    | _ => none
  | _ => none
/-- the place of an index in a list of so many -/
def ixN (n : Nat) (i : Int) : Option Nat := if 0 ≤ i then (if i < n then some i.toNat else none) else if -(n : Int) ≤ i then some (i + n).toNat else none
def setIR (L : LH) (a i v : D) : Option LH := match a with
  | .ref n => match L[n]? with
    | some (.lst xs) => match i with
      | .int k => match ixN xs.length k with
        | some j => some (L.set n (.lst (xs.set j v)))
        | none => none
      | _ => none
    | some (.dic kvs) => match keyOf i with
      | some k => if kvs.length < most then some (L.set n (.dic (putK k v kvs))) else none
      | none => none
    | _ => none
  | _ => none
def tyOf (L : LH) : D → Option String
  | .non => some "NoneType"
  | .bl _ => some "bool"
  | .int _ => some "int"
  | .str _ => some "str"
  | .txt _ => some "str"
  | .tup _ => some "tuple"
  | .ref n => match L[n]? with
    | some (.lst _) => some "list"
    | some (.dic _) => some "dict"
    | _ => none
  | .scr _ => none
  | .fn _ => none
def isiR (L : LH) (a : D) (t : Ty) : Option Bool := match tyOf L a with
  | none => none
  | some y => match t with
    | .int => some (y == "int" || y == "bool")
    | .bool => some (y == "bool")
    | .str => some (y == "str")
    | .tuple => some (y == "tuple")
def intsOf : List D → Option (List Int)
  | [] => some []
  | .int i :: r => (intsOf r).map (i :: ·)
  | _ :: _ => none
/-- insertion into a rising list -/
def insI (i : Int) : List Int → List Int
  | [] => [i]
  | j :: r => if i ≤ j then i :: j :: r else j :: insI i r
def sortI : List Int → List Int
  | [] => []
  | i :: r => insI i (sortI r)
def maxI : Int → List Int → Int
  | m, [] => m
  | m, i :: r => maxI (if i > m then i else m) r

mutual
def D.py (tab : List PySem.Str) : D → PySem.PyData
  | .non => .none
  | .bl b => .bool b
  | .int i => .int i
  | .str c => .str (tab.getD c ⟨#[]⟩)
  | .txt s => .str s
  | .tup xs => .tuple (D.pys tab xs)
  | .ref _ => .none
  | .scr _ => .none
  | .fn _ => .none
def D.pys (tab : List PySem.Str) : List D → List PySem.PyData
  | [] => []
  | x :: xs => x.py tab :: D.pys tab xs
end
mutual
/-- more than the length of what repr shows -/
def D.rl : D → Nat
  | .int i => i.natAbs.log2 + 3
  | .str _ => 200
  | .tup xs => 4 + D.rls xs
  | _ => 5
def D.rls : List D → Nat
  | [] => 0
  | x :: xs => x.rl + 2 + D.rls xs
end
mutual
/-- ints that repr may show -/
def D.ri : D → Bool
  | .int i => decide (i.natAbs.log2 < 1920)
  | .tup xs => D.ris xs
  | _ => true
def D.ris : List D → Bool
  | [] => true
  | x :: xs => x.ri && D.ris xs
end
def bfR (tab : List PySem.Str) (b : Bf) (L : LH) (as : List D) : R D := match b with
  | .len => match as with
    | [.tup xs] => .ok (.int xs.length) L
    | [.ref n] => match L[n]? with
      | some (.lst xs) => .ok (.int xs.length) L
      | some (.dic kvs) => .ok (.int kvs.length) L
      | _ => .bad
    | _ => .bad
  | .abs => match as with
    | [.int i] => .ok (.int (if i < 0 then -i else i)) L
    | _ => .bad
  | .int => match as with
    | [.int i] => .ok (.int i) L
    | _ => .bad
  | .tuple => match as with
    | [.tup xs] => .ok (.tup xs) L
    | [.ref n] => match L[n]? with
      | some (.lst xs) => .ok (.tup xs) L
      | _ => .bad
    | _ => .bad
  | .list => match as with
    | [.tup xs] => .ok (.ref L.length) (L ++ [.lst xs])
    | [.ref n] => match L[n]? with
      | some (.lst xs) => .ok (.ref L.length) (L ++ [.lst xs])
      | some (.dic kvs) => .ok (.ref L.length) (L ++ [.lst (kvs.map fun kv => match kv.1 with | .i n => D.int n | .s c => D.str c)])
      | _ => .bad
    | _ => .bad
  | .sum => match as with
    | [.ref n] => match L[n]? with
      | some (.lst xs) => match intsOf xs with
        | some ns => .ok (.int ns.sum) L
        | none => .bad
      | _ => .bad
    | _ => .bad
  | .max => match as with
    | [.int i, .int j] => .ok (.int (if j > i then j else i)) L
    | [.ref n] => match L[n]? with
      | some (.lst xs) => match intsOf xs with
        | some (m :: ns) => .ok (.int (maxI m ns)) L
        | _ => .bad
      | _ => .bad
    | _ => .bad
  | .min => match as with
    | [.int i, .int j] => .ok (.int (if j < i then j else i)) L
    | _ => .bad
  | .sorted => match as with
    | [.ref n] => match L[n]? with
      | some (.lst xs) => match intsOf xs with
        | some ns => if ns.length < 64 then .ok (.ref L.length) (L ++ [.lst ((sortI ns).map D.int)]) else .bad
        | none => .bad
      | _ => .bad
    | _ => .bad
  | .repr => match as with
    | [d] => if d.pure && d.ri && decide (d.dep ≤ 180) && decide (d.rl ≤ most) then .ok (.txt (d.py tab).shown) L else .bad
    | _ => .bad
def bmR (m : Bm) (L : LH) (o : D) (as : List D) : R D := match o with
  | .ref n => match L[n]? with
    | some (.lst xs) => match m with
      | .append => match as with
        | [x] => if xs.length < most then .ok .non (L.set n (.lst (xs ++ [x]))) else .bad
        | _ => .bad
      | .count => match as with
        | [x] => if x.pure && D.pures xs && decide (D.deps xs ≤ 180) then .ok (.int (xs.countP fun y => y.eqv x)) L else .bad
        | _ => .bad
      | .index => match as with
        | [x] => if x.pure && D.pures xs && decide (D.deps xs ≤ 60) && decide (x.dep ≤ 60) then (match xs.findIdx? fun y => y.eqv x with | some j => .ok (.int j) L | none => .bad) else .bad
        | _ => .bad
      | .get => .bad
    | some (.dic kvs) => match m with
      | .get => match as with
        | [k, d] => match keyOf k with
          | some k => .ok ((getK k kvs).getD d) L
          | none => .bad
        | _ => .bad
      | _ => .bad
    | _ => .bad
  | _ => .bad

/-! ### loops -/
inductive Step (β γ : Type) where
  | more (b : β) | done (g : γ)
/-- what is walked: items, or a list by its places -/
inductive IV where
  | items (ds : List D) | lst (n : Nat)
def loopI {β γ : Type} (step : D → β → LH → R (Step β γ)) : List D → β → LH → R (Step β γ)
  | [], b, L => .ok (.more b) L
  | d :: ds, b, L => (step d b L).bind fun s L' => match s with
    | .more b' => loopI step ds b' L'
    | .done g => .ok (.done g) L'
def loopL {β γ : Type} (step : D → β → LH → R (Step β γ)) (n : Nat) : Nat → Nat → β → LH → R (Step β γ)
  | 0, _, _, _ => .bad
  | m + 1, i, b, L => match L[n]? with
    | some (.lst xs) => match xs[i]? with
      | none => .ok (.more b) L
      | some d => (step d b L).bind fun s L' => match s with
        | .more b' => loopL step n m (i + 1) b' L'
        | .done g => .ok (.done g) L'
    | _ => .bad
def loopV {β γ : Type} (step : D → β → LH → R (Step β γ)) (v : IV) (b : β) (L : LH) : R (Step β γ) := match v with
  | .items ds => loopI step ds b L
  | .lst n => match L[n]? with
    | some (.lst xs) => loopL step n (xs.length + 1) 0 b L
    | _ => .bad
def pairs : List D → List D → List D
  | x :: xs, y :: ys => .tup [x, y] :: pairs xs ys
  | _, _ => []
def nums : Nat → List D → List D
  | _, [] => []
  | i, x :: xs => .tup [.int i, x] :: nums (i + 1) xs
def rangeD (lo : Int) (n : Nat) : List D := (List.range n).map fun (i : Nat) => D.int (lo + (i : Int))
def srcR (s : Src) (L : LH) (as : List D) : Option IV := match s with
  | .seq => match as with
    | [.tup xs] => some (.items xs)
    | [.ref n] => match L[n]? with
      | some (.lst _) => some (.lst n)
      | _ => none
    | [.scr ns] => some (.items (ns.map D.int))
    | _ => none
  | .rng1 => match as with
    | [.int j] => if -(2 ^ 62) ≤ j ∧ j < 2 ^ 62 then some (.items (rangeD 0 j.toNat)) else none
    | _ => none
  | .rng2 => match as with
    | [.int i, .int j] => if -(2 ^ 62) ≤ i ∧ i < 2 ^ 62 ∧ -(2 ^ 62) ≤ j ∧ j < 2 ^ 62 then some (.items (rangeD i (j - i).toNat)) else none
    | _ => none
  | .zip => match as with
    | [.tup xs, .tup ys] => some (.items (pairs xs ys))
    | _ => none
  | .enm => match as with
    | [.tup xs] => some (.items (nums 0 xs))
    | _ => none
def wipe (ρ : Env) : List Nat → Env
  | [] => ρ
  | i :: r => (wipe ρ r).set i none
mutual
def asg (cfg : Cfg) : Tg → D → Env → LH → R Env
  | .name i, v, ρ, L => .ok (ρ.set i (some v)) L
  | .fld i f, v, ρ, L => match ρ[i]? with
    | some (some o) => match setFR cfg L o f v with
      | some L' => .ok ρ L'
      | none => .bad
    | _ => .bad
  | .tup ts, v, ρ, L => match v with
    | .tup ds => asgs cfg ts ds ρ L
    | _ => .bad
def asgs (cfg : Cfg) : List Tg → List D → Env → LH → R Env
  | [], [], ρ, L => .ok ρ L
  | t :: ts, d :: ds, ρ, L => (asg cfg t d ρ L).bind fun ρ' L' => asgs cfg ts ds ρ' L'
  | _, _, _, _ => .bad
end
abbrev Call := Nat → List D → LH → R D
/-- the def that an instance's method is -/
def mthR (cfg : Cfg) (L : LH) (x : D) (m : Nat) : Option Nat := match x with
  | .ref n => match L[n]? with
    | some (.ins c fs) => match cfg.mth c m, getK m fs with
      | some f, none => some f
      | _, _ => none
    | _ => none
  | _ => none
/-- the receiver is of the method's type -/
def bmOk (m : Bm) (L : LH) (x : D) : Bool := match x with
  | .ref n => match m, L[n]? with
    | .get, some (.dic _) => true
    | .get, _ => false
    | _, some (.lst _) => true
    | _, _ => false
  | _ => false

/-! ### expressions -/
section
variable (cfg : Cfg) (cf ci : Call)
mutual
def evE : E → Env → LH → R D
  | .var i, ρ, L => match ρ[i]? with
    | some (some v) => .ok v L
    | _ => .bad
  | .non, _, L => .ok .non L
  | .bl b, _, L => .ok (.bl b) L
  | .int i, _, L => .ok (.int i) L
  | .str c, _, L => .ok (.str c) L
  | .glo g, _, L => .ok (cfg.glo g) L
  | .tup es, ρ, L => (evEs es ρ L).bind fun vs L => .ok (.tup vs) L
  | .lst es, ρ, L => (evEs es ρ L).bind fun vs L => .ok (.ref L.length) (L ++ [.lst vs])
  | .dic ks es, ρ, L => (evEs es ρ L).bind fun vs L => if ks.length = vs.length then .ok (.ref L.length) (L ++ [.dic ((ks.map Ky.s).zip vs)]) else .bad
  | .bin o a b, ρ, L => (evE a ρ L).bind fun x L => (evE b ρ L).bind fun y L => binR o L x y
  | .neg a, ρ, L => (evE a ρ L).bind fun x L => match x with
    | .int i => .ok (.int (-i)) L
    | _ => .bad
  | .cmp o a b, ρ, L => (evE a ρ L).bind fun x L => (evE b ρ L).bind fun y L => okB L (cmpR o L x y)
  | .chn o o' a b c, ρ, L => (evE a ρ L).bind fun x L => (evE b ρ L).bind fun y L => match cmpR o L x y with
    | some true => (evE c ρ L).bind fun z L => okB L (cmpR o' L y z)
    | some false => .ok (.bl false) L
    | none => .bad
  | .isn ng a, ρ, L => (evE a ρ L).bind fun x L => .ok (.bl (match x with | .non => !ng | _ => ng)) L
  | .isb ng k a, ρ, L => (evE a ρ L).bind fun x L => match x with
    | .bl b => .ok (.bl ((b == k) != ng)) L
    | _ => .bad
  | .and a b, ρ, L => (evE a ρ L).bind fun x L => match isTrue L x with
    | some true => evE b ρ L
    | some false => .ok x L
    | none => .bad
  | .or a b, ρ, L => (evE a ρ L).bind fun x L => match isTrue L x with
    | some false => evE b ρ L
    | some true => .ok x L
    | none => .bad
  | .not a, ρ, L => (evE a ρ L).bind fun x L => okB L ((isTrue L x).map (!·))
  | .ite c a b, ρ, L => (evE c ρ L).bind fun x L => match isTrue L x with
    | some true => evE a ρ L
    | some false => evE b ρ L
    | none => .bad
  | .fld a f, ρ, L => (evE a ρ L).bind fun x L => okD L (fldR cfg L x f)
  | .idx a b, ρ, L => (evE a ρ L).bind fun x L => (evE b ρ L).bind fun y L => okD L (idxR L x y)
  | .slf a b, ρ, L => (evE a ρ L).bind fun x L => (evE b ρ L).bind fun y L => sliR L true x y
  | .slt a b, ρ, L => (evE a ρ L).bind fun x L => (evE b ρ L).bind fun y L => sliR L false x y
  | .rev a, ρ, L => (evE a ρ L).bind fun x L => match x with
    | .ref n => match L[n]? with
      | some (.lst xs) => .ok (.ref L.length) (L ++ [.lst xs.reverse])
      | _ => .bad
    | _ => .bad
  | .call f es, ρ, L => (evEs es ρ L).bind fun vs L => cf f vs L
  | .callv i es, ρ, L => match ρ[i]? with
    | some (some (.fn k)) => match cfg.fnm k with
      | some f => (evEs es ρ L).bind fun vs L => cf f vs L
      | none => .bad
    | _ => .bad
  | .mk c es, ρ, L => (evEs es ρ L).bind fun vs L => match cfg.ini c with
    | some f => (ci f (.ref L.length :: vs) (L ++ [.ins c []])).bind fun v L' => match v with
      | .non => .ok (.ref L.length) L'
      | _ => .bad
    | none => .bad
  | .mth o m es, ρ, L => (evE o ρ L).bind fun x L => match mthR cfg L x m with
    | some f => (evEs es ρ L).bind fun vs L => cf f (x :: vs) L
    | none => .bad
  | .bm m o es, ρ, L => (evE o ρ L).bind fun x L => if bmOk m L x then (evEs es ρ L).bind fun vs L => bmR m L x vs else .bad
  | .bf b es, ρ, L => (evEs es ρ L).bind fun vs L => bfR cfg.tab b L vs
  | .isi a t, ρ, L => (evE a ρ L).bind fun x L => okB L (isiR L x t)
  | .lc tg own src es cond e, ρ, L => (evEs es ρ L).bind fun vs L => match srcR src L vs with
    | some iv => (loopV (γ := Unit) (fun d acc L => (asg cfg tg d (wipe ρ own) L).calm.bind fun ρ' L => (evC cond ρ' L).calm.bind fun b L => if b then (evE e ρ' L).calm.bind fun x L => if acc.length < most then .ok (.more (acc ++ [x])) L else .bad else .ok (.more acc) L) iv [] L).bind fun s L => match s with
      | .more acc => .ok (.ref L.length) (L ++ [.lst acc])
      | .done _ => .bad
    | none => .bad
  | .lc2 tg own src es tg1 own1 src1 es1 e, ρ, L => (evEs es ρ L).bind fun vs L => match srcR src L vs with
    | some iv => (loopV (γ := Unit) (fun d acc L => (asg cfg tg d (wipe ρ own) L).calm.bind fun ρ' L => (evEs es1 ρ' L).calm.bind fun vs1 L => match srcR src1 L vs1 with
        | some iv1 => loopV (γ := Unit) (fun d acc L => (asg cfg tg1 d (wipe ρ' own1) L).calm.bind fun ρ' L => (evE e ρ' L).calm.bind fun x L => if acc.length < most then .ok (.more (acc ++ [x])) L else .bad) iv1 acc L
        | none => .bad) iv [] L).bind fun s L => match s with
      | .more acc => .ok (.ref L.length) (L ++ [.lst acc])
      | .done _ => .bad
    | none => .bad
def evEs : List E → Env → LH → R (List D)
  | [], _, L => .ok [] L
  | e :: es, ρ, L => (evE e ρ L).bind fun v L => (evEs es ρ L).bind fun vs L => .ok (v :: vs) L
/-- a clause's test, if there is one -/
def evC : List E → Env → LH → R Bool
  | [], _, L => .ok true L
  | e :: _, ρ, L => (evE e ρ L).bind fun x L => match isTrue L x with
    | some b => .ok b L
    | none => .bad
end

/-! ### statements -/
/-- what an augmented assignment to an int makes -/
def augI (o : Op) (x : Int) (v : D) : Option Int := match v with
  | .int y => match o with
    | .add => some (x + y)
    | .sub => some (x - y)
    | _ => none
  | _ => none
def clsR (L : LH) (x : D) : Option Nat := match x with
  | .ref n => match L[n]? with
    | some (.ins c _) => some c
    | _ => none
  | _ => none

inductive Fl where
  | nx (ρ : Env) | ret (v : D) | brk (ρ : Env) | cnt (ρ : Env)
def evT (e : E) (ρ : Env) (L : LH) : R Bool := (evE cfg cf ci e ρ L).bind fun x L => match isTrue L x with
  | some b => .ok b L
  | none => .bad
def loopW (c : Env → LH → R Bool) (step : Env → LH → R Fl) : Nat → Env → LH → R Fl
  | 0, _, _ => .bad
  | n + 1, ρ, L => (c ρ L).bind fun b L => if b then (step ρ L).bind fun f L => match f with
      | .nx ρ' => loopW c step n ρ' L
      | .cnt ρ' => loopW c step n ρ' L
      | .brk ρ' => .ok (.nx ρ') L
      | .ret v => .ok (.ret v) L
    else .ok (.nx ρ) L
def turns : Nat := 1000000000
mutual
def evS : S → Env → LH → R Fl
  | .pass, ρ, L => .ok (.nx ρ) L
  | .expr e, ρ, L => (evE cfg cf ci e ρ L).bind fun _ L => .ok (.nx ρ) L
  | .ret e, ρ, L => (evE cfg cf ci e ρ L).bind fun v L => .ok (.ret v) L
  | .retn, _, L => .ok (.ret .non) L
  | .set i e, ρ, L => (evE cfg cf ci e ρ L).bind fun v L => .ok (.nx (ρ.set i (some v))) L
  | .setT tg e, ρ, L => (evE cfg cf ci e ρ L).bind fun v L => (asg cfg tg v ρ L).bind fun ρ' L => .ok (.nx ρ') L
  | .par i j a b, ρ, L => (evE cfg cf ci a ρ L).bind fun x L => (evE cfg cf ci b ρ L).bind fun y L => .ok (.nx ((ρ.set i (some x)).set j (some y))) L
  | .setF o f e, ρ, L => (evE cfg cf ci e ρ L).bind fun v L => (evE cfg cf ci o ρ L).bind fun x L => match setFR cfg L x f v with
    | some L' => .ok (.nx ρ) L'
    | none => .bad
  | .setI o i e, ρ, L => (evE cfg cf ci e ρ L).bind fun v L => (evE cfg cf ci o ρ L).bind fun x L => (evE cfg cf ci i ρ L).bind fun y L => match setIR L x y v with
    | some L' => .ok (.nx ρ) L'
    | none => .bad
  | .aug i o e, ρ, L => match ρ[i]? with
    | some (some (.int x)) => (evE cfg cf ci e ρ L).bind fun v L => match augI o x v with
      | some z => .ok (.nx (ρ.set i (some (.int z)))) L
      | none => .bad
    | _ => .bad
  | .augF a f o e, ρ, L => (evE cfg cf ci a ρ L).bind fun x L => match fldR cfg L x f, clsR L x with
    | some (.int k), some c => (evE cfg cf ci e ρ L).bind fun v L => match augI o k v with
      | some z => if clsR L x = some c then (match setFR cfg L x f (.int z) with | some L' => .ok (.nx ρ) L' | none => .bad) else .bad
      | none => .bad
    | _, _ => .bad
  | .ite c a b, ρ, L => (evT cfg cf ci c ρ L).bind fun k L => if k then evB a ρ L else evB b ρ L
  | .for tg src es b, ρ, L => (evEs cfg cf ci es ρ L).bind fun vs L => match srcR src L vs with
    | some iv => (loopV (γ := Fl) (fun d ρ L => (asg cfg tg d ρ L).bind fun ρ' L => (evB b ρ' L).bind fun f L => match f with
        | .nx ρ' => .ok (.more ρ') L
        | .cnt ρ' => .ok (.more ρ') L
        | .brk ρ' => .ok (.done (.nx ρ')) L
        | .ret v => .ok (.done (.ret v)) L) iv ρ L).bind fun s L => match s with
      | .more ρ' => .ok (.nx ρ') L
      | .done f => .ok f L
    | none => .bad
  | .whl c b, ρ, L => loopW (evT cfg cf ci c) (evB b) turns ρ L
  | .brk, ρ, L => .ok (.brk ρ) L
  | .cnt, ρ, L => .ok (.cnt ρ) L
  | .raise c, _, L => .exc c L
  | .never, _, _ => .bad
def evB : List S → Env → LH → R Fl
  | [], ρ, L => .ok (.nx ρ) L
  | s :: r, ρ, L => (evS s ρ L).bind fun f L => match f with
    | .nx ρ' => evB r ρ' L
    | f => .ok f L
end
end
/-- a def, called -/
def runDef (cfg : Cfg) (cf ci : Call) (f : Nat) (as : List D) (L : LH) : R D := match cfg.defs f with
  | some d => if as.length = d.np then (evB cfg cf ci d.body (as.map some ++ List.replicate (d.nl - d.np) none) L).bind fun fl L => match fl with
      | .ret v => .ok v L
      | .nx _ => .ok .non L
      | _ => .bad
    else .bad
  | none => .bad
/-- calls of so many levels, one in another; an __init__ is two levels down -/
def calls (cfg : Cfg) : Nat → Call × Call
  | 0 => (fun _ _ _ => .bad, fun _ _ _ => .bad)
  | n + 1 => (runDef cfg (calls cfg n).1 (calls cfg n).2, (calls cfg n).1)
abbrev run (cfg : Cfg) (n : Nat) : Call := (calls cfg n).1
end Ev

end
section
set_option linter.all false
set_option maxRecDepth 100000
/-! Ev: how the evaluator's values and heap stand in the layer's abstract heap. -/
namespace Ev
open PySem PySem.Spec PyProof.Rows L2

section
variable (tab : List Str) (K : PySem.W.Frag) (ca : Nat → Addr)
/-- a list of the written part -/
def KL (a : Addr) (xs : List V) : Prop := ∃ (o : Obj) (its : Array Value) (n : Nat), K.lookup a = some o ∧ o.cls = .type "list" ∧ o.dict = none ∧ o.data = .seq its n ∧ its.size ≤ sizeLine ∧ Vals xs its.toList
def ScrAt (H : Hp) (a : Addr) (ns : List Int) : Prop := (∃ o, H a = some (.frz o (.lst (ns.map V.int)))) ∨ KL K a (ns.map V.int)
mutual
def RepD (as : List Addr) (H : Hp) : D → V → Prop
  | .non, v => v = .non
  | .bl b, v => v = .bl b
  | .int i, v => v = .int i
  | .str c, v => c < tab.length ∧ v = .str (tab.getD c ⟨#[]⟩)
  | .txt s, v => v = .str s
  | .tup ds, v => ∃ a vs, v = .ref a ∧ SqT K H a vs ∧ RepDs as H ds vs
  | .ref n, v => ∃ a, as[n]? = some a ∧ v = .ref a
  | .scr ns, v => ∃ a, v = .ref a ∧ ScrAt K H a ns
  | .fn c, v => v = .ref (He.ga K (tab.getD c ⟨#[]⟩))
def RepDs (as : List Addr) (H : Hp) : List D → List V → Prop
  | [], vs => vs = []
  | d :: ds, vs => ∃ x xs, vs = x :: xs ∧ RepD as H d x ∧ RepDs as H ds xs
end
def kyV : Ky → Key
  | .i n => .inl n
  | .s c => .inr (tab.getD c ⟨#[]⟩)
def kyOk : Ky → Prop
  | .i _ => True
  | .s c => c < tab.length
def RepKs (as : List Addr) (H : Hp) : List (Ky × D) → List (Key × V) → Prop
  | [], vs => vs = []
  | (k, d) :: ds, vs => ∃ x xs, vs = (kyV tab k, x) :: xs ∧ kyOk tab k ∧ RepD tab K as H d x ∧ RepKs as H ds xs
def RepFs (as : List Addr) (H : Hp) : List (Nat × D) → List (Str × V) → Prop
  | [], vs => vs = []
  | (c, d) :: ds, vs => ∃ x xs, vs = (tab.getD c ⟨#[]⟩, x) :: xs ∧ c < tab.length ∧ RepD tab K as H d x ∧ RepFs as H ds xs
def RepO (as : List Addr) (H : Hp) (a : Addr) : LO → Prop
  | .lst ds => ∃ vs, H a = some (.lst vs) ∧ RepDs tab K as H ds vs
  | .dic kvs => ∃ ks, H a = some (.dK ks) ∧ RepKs tab K as H kvs ks ∧ (kvs.map (·.1)).Nodup
  | .ins c fs => ∃ dx gs, H a = some (.ins (ca c) dx gs) ∧ RepFs tab K as H fs gs
structure Rp (as : List Addr) (L : LH) (H : Hp) : Prop where
  len : as.length = L.length
  nd : as.Nodup
  obj : ∀ (n : Nat) (o : LO), L[n]? = some o → ∃ a, as[n]? = some a ∧ RepO tab K ca as H a o
end
/-- what an evaluation leaves -/
structure Ext (as : List Addr) (H : Hp) (as' : List Addr) (H' : Hp) : Prop where
  pre : as <+: as'
  keep : ∀ b o, H b = some o → b ∉ as → H' b = some o
  new : ∀ b, b ∈ as' → b ∉ as → H b = none
section
variable {tab : List Str} {K : PySem.W.Frag} {ca : Nat → Addr} {as as' as2 : List Addr} {L L' : LH} {H H' H2 : Hp}
theorem Ext.refl : Ext as H as H := ⟨List.prefix_refl _, fun _ _ e _ => e, fun _ h n => absurd h n⟩
theorem Ext.trans (x : Ext as H as' H') (y : Ext as' H' as2 H2) : Ext as H as2 H2 := by
  refine ⟨List.IsPrefix.trans x.pre y.pre, fun b o e n => ?_, fun b h n => ?_⟩
  · refine y.keep b o (x.keep b o e n) fun m => ?_
    rw [x.new b m n] at e; cases e
  · by_cases m : b ∈ as'
    · exact x.new b m n
    · cases e : H b with
      | none => rfl
      | some o => rw [← e]; have := y.new b h m; rw [x.keep b o e n] at this; cases this
theorem Ext.at (x : Ext as H as' H') {n : Nat} {a : Addr} (e : as[n]? = some a) : as'[n]? = some a := by
  obtain ⟨t, rfl⟩ := x.pre
  obtain ⟨h, rfl⟩ := List.getElem?_eq_some_iff.mp e
  rw [List.getElem?_append_left h]; exact List.getElem?_eq_getElem h
/-- at a known address stands no tuple, and nothing locked -/
theorem Rp.kind (r : Rp tab K ca as L H) {b : Addr} (m : b ∈ as) : (∃ vs, H b = some (.lst vs)) ∨ (∃ ks, H b = some (.dK ks)) ∨ ∃ C dx gs, H b = some (.ins C dx gs) := by
  obtain ⟨n, hn, rfl⟩ := List.mem_iff_getElem.mp m
  have hL : n < L.length := by rw [← r.len]; exact hn
  obtain ⟨a, ea, ho⟩ := r.obj n L[n] (List.getElem?_eq_getElem hL)
  rw [List.getElem?_eq_getElem hn] at ea
  cases ea
  cases e : L[n] with
  | lst ds => rw [e] at ho; obtain ⟨vs, h, _⟩ := ho; exact .inl ⟨vs, h⟩
  | dic kvs => rw [e] at ho; obtain ⟨ks, h, _⟩ := ho; exact .inr (.inl ⟨ks, h⟩)
  | ins c fs => rw [e] at ho; obtain ⟨dx, gs, h, _⟩ := ho; exact .inr (.inr ⟨_, dx, gs, h⟩)
theorem Rp.notTup (r : Rp tab K ca as L H) {b : Addr} {xs : List V} (e : H b = some (.tup xs)) : b ∉ as := fun m => by
  rcases r.kind m with ⟨_, h⟩ | ⟨_, h⟩ | ⟨_, _, _, h⟩ <;> (rw [e] at h; cases h)
theorem Rp.notFrz (r : Rp tab K ca as L H) {b : Addr} {o : Obj} {u : HO} (e : H b = some (.frz o u)) : b ∉ as := fun m => by
  rcases r.kind m with ⟨_, h⟩ | ⟨_, h⟩ | ⟨_, _, _, h⟩ <;> (rw [e] at h; cases h)
theorem sqT_ext (r : Rp tab K ca as L H) (x : Ext as H as' H') {a : Addr} {vs : List V} (h : SqT K H a vs) : SqT K H' a vs := by
  rcases h with (h | ⟨o, h⟩) | h
  · exact .inl (.inl (x.keep _ _ h (r.notTup h)))
  · exact .inl (.inr ⟨o, x.keep _ _ h (r.notFrz h)⟩)
  · exact .inr h
theorem scr_ext (r : Rp tab K ca as L H) (x : Ext as H as' H') {a : Addr} {ns : List Int} (h : ScrAt K H a ns) : ScrAt K H' a ns := by
  rcases h with ⟨o, h⟩ | h
  · exact .inl ⟨o, x.keep _ _ h (r.notFrz h)⟩
  · exact .inr h
mutual
theorem RepD.ext (r : Rp tab K ca as L H) (x : Ext as H as' H') : ∀ (d : D) (v : V), RepD tab K as H d v → RepD tab K as' H' d v
  | .non, v, h => h
  | .bl _, v, h => h
  | .int _, v, h => h
  | .str _, v, h => h
  | .txt _, v, h => h
  | .tup ds, v, h => by
    simp only [RepD] at h ⊢
    obtain ⟨a, vs, e, h1, h2⟩ := h
    exact ⟨a, vs, e, sqT_ext r x h1, RepDs.ext r x ds vs h2⟩
  | .ref n, v, h => by
    simp only [RepD] at h ⊢
    obtain ⟨a, e, h⟩ := h
    exact ⟨a, x.at e, h⟩
  | .scr ns, v, h => by
    simp only [RepD] at h ⊢
    obtain ⟨a, e, h⟩ := h
    exact ⟨a, e, scr_ext r x h⟩
  | .fn _, v, h => h
theorem RepDs.ext (r : Rp tab K ca as L H) (x : Ext as H as' H') : ∀ (ds : List D) (vs : List V), RepDs tab K as H ds vs → RepDs tab K as' H' ds vs
  | [], vs, h => h
  | d :: ds, vs, h => by
    simp only [RepDs] at h ⊢
    obtain ⟨y, ys, e, h1, h2⟩ := h
    exact ⟨y, ys, e, RepD.ext r x d y h1, RepDs.ext r x ds ys h2⟩
end

/-! ### rows of values -/
theorem RepDs.nil : RepDs tab K as H [] [] := rfl
theorem RepDs.cons {d : D} {ds : List D} {v : V} {vs : List V} (h : RepD tab K as H d v) (t : RepDs tab K as H ds vs) : RepDs tab K as H (d :: ds) (v :: vs) := ⟨v, vs, rfl, h, t⟩
theorem RepDs.cons_iff {d : D} {ds : List D} {v : V} {vs : List V} : RepDs tab K as H (d :: ds) (v :: vs) ↔ RepD tab K as H d v ∧ RepDs tab K as H ds vs :=
  ⟨fun ⟨_, _, e, h1, h2⟩ => by cases e; exact ⟨h1, h2⟩, fun ⟨h1, h2⟩ => .cons h1 h2⟩
theorem RepDs.uncons {d : D} {ds : List D} {vs : List V} (h : RepDs tab K as H (d :: ds) vs) : ∃ x xs, vs = x :: xs ∧ RepD tab K as H d x ∧ RepDs tab K as H ds xs := h
theorem RepDs.length : ∀ {ds : List D} {vs : List V}, RepDs tab K as H ds vs → ds.length = vs.length
  | [], vs, h => by rw [show vs = [] from h]; rfl
  | d :: ds, vs, h => by
    obtain ⟨x, xs, rfl, _, h2⟩ := h
    rw [List.length_cons, List.length_cons, RepDs.length h2]
theorem RepDs.get : ∀ {ds : List D} {vs : List V} {i : Nat} {d : D}, RepDs tab K as H ds vs → ds[i]? = some d → ∃ v, vs[i]? = some v ∧ RepD tab K as H d v
  | [], vs, i, d, h, e => by simp at e
  | y :: ds, vs, 0, d, h, e => by
    obtain ⟨x, xs, rfl, h1, h2⟩ := h
    simp at e; subst e
    exact ⟨x, rfl, h1⟩
  | y :: ds, vs, i + 1, d, h, e => by
    obtain ⟨x, xs, rfl, h1, h2⟩ := h
    simpa using RepDs.get h2 (by simpa using e)
theorem RepDs.get' : ∀ {ds : List D} {vs : List V} {i : Nat} {v : V}, RepDs tab K as H ds vs → vs[i]? = some v → ∃ d, ds[i]? = some d ∧ RepD tab K as H d v
  | [], vs, i, d, h, e => by rw [show vs = [] from h] at e; simp at e
  | y :: ds, vs, 0, d, h, e => by
    obtain ⟨x, xs, rfl, h1, h2⟩ := h
    simp at e; subst e
    exact ⟨y, rfl, h1⟩
  | y :: ds, vs, i + 1, d, h, e => by
    obtain ⟨x, xs, rfl, h1, h2⟩ := h
    simpa using RepDs.get' h2 (by simpa using e)
theorem RepDs.append : ∀ {ds es : List D} {vs us : List V}, RepDs tab K as H ds vs → RepDs tab K as H es us → RepDs tab K as H (ds ++ es) (vs ++ us)
  | [], _, vs, _, h, h' => by rw [show vs = [] from h]; exact h'
  | d :: ds, _, vs, _, h, h' => by
    obtain ⟨x, xs, rfl, h1, h2⟩ := h
    exact .cons h1 (RepDs.append h2 h')
theorem RepDs.take : ∀ {ds : List D} {vs : List V} (n : Nat), RepDs tab K as H ds vs → RepDs tab K as H (ds.take n) (vs.take n)
  | _, _, 0, _ => by simp; exact .nil
  | [], vs, n + 1, h => by rw [show vs = [] from h]; simp; exact .nil
  | d :: ds, vs, n + 1, h => by
    obtain ⟨x, xs, rfl, h1, h2⟩ := h
    exact .cons h1 (RepDs.take n h2)
theorem RepDs.drop : ∀ {ds : List D} {vs : List V} (n : Nat), RepDs tab K as H ds vs → RepDs tab K as H (ds.drop n) (vs.drop n)
  | _, _, 0, h => h
  | [], vs, n + 1, h => by rw [show vs = [] from h]; simp; exact .nil
  | d :: ds, vs, n + 1, h => by
    obtain ⟨x, xs, rfl, h1, h2⟩ := h
    exact RepDs.drop n h2
theorem RepDs.set : ∀ {ds : List D} {vs : List V} {d : D} {v : V} (n : Nat), RepDs tab K as H ds vs → RepD tab K as H d v → RepDs tab K as H (ds.set n d) (vs.set n v)
  | [], vs, _, _, n, h, _ => by rw [show vs = [] from h]; exact .nil
  | y :: ds, vs, _, _, 0, h, hd => by
    obtain ⟨x, xs, rfl, h1, h2⟩ := h
    exact .cons hd h2
  | y :: ds, vs, _, _, n + 1, h, hd => by
    obtain ⟨x, xs, rfl, h1, h2⟩ := h
    exact .cons h1 (RepDs.set n h2 hd)
theorem RepDs.rev : ∀ {ds : List D} {vs : List V}, RepDs tab K as H ds vs → RepDs tab K as H ds.reverse vs.reverse
  | [], vs, h => by rw [show vs = [] from h]; exact .nil
  | d :: ds, vs, h => by
    obtain ⟨x, xs, rfl, h1, h2⟩ := h
    rw [List.reverse_cons, List.reverse_cons]
    exact .append (RepDs.rev h2) (.cons h1 .nil)
theorem RepDs.rep {ds : List D} {vs : List V} (h : RepDs tab K as H ds vs) : ∀ k : Nat, RepDs tab K as H (List.replicate k ds).flatten (List.replicate k vs).flatten
  | 0 => .nil
  | k + 1 => by
    rw [List.replicate_succ, List.replicate_succ, List.flatten_cons, List.flatten_cons]
    exact .append h (RepDs.rep h k)
theorem RepDs.ints : ∀ (ns : List Int), RepDs tab K as H (ns.map D.int) (ns.map V.int)
  | [] => .nil
  | n :: r => .cons rfl (RepDs.ints r)

theorem RepKs.ext (r : Rp tab K ca as L H) (x : Ext as H as' H') : ∀ (kvs : List (Ky × D)) (ks : List (Key × V)), RepKs tab K as H kvs ks → RepKs tab K as' H' kvs ks
  | [], _, h => h
  | (k, d) :: kvs, ks, h => by
    obtain ⟨y, ys, e, h0, h1, h2⟩ := h
    exact ⟨y, ys, e, h0, RepD.ext r x d y h1, RepKs.ext r x kvs ys h2⟩
theorem RepFs.ext (r : Rp tab K ca as L H) (x : Ext as H as' H') : ∀ (kvs : List (Nat × D)) (ks : List (Str × V)), RepFs tab K as H kvs ks → RepFs tab K as' H' kvs ks
  | [], _, h => h
  | (k, d) :: kvs, ks, h => by
    obtain ⟨y, ys, e, h0, h1, h2⟩ := h
    exact ⟨y, ys, e, h0, RepD.ext r x d y h1, RepFs.ext r x kvs ys h2⟩
theorem RepO.ext (r : Rp tab K ca as L H) (x : Ext as H as' H') {a : Addr} {o : LO} (e : H' a = H a) (h : RepO tab K ca as H a o) : RepO tab K ca as' H' a o := by
  cases o with
  | lst ds => obtain ⟨vs, h1, h2⟩ := h; exact ⟨vs, e.trans h1, RepDs.ext r x ds vs h2⟩
  | dic kvs => obtain ⟨ks, h1, h2, h3⟩ := h; exact ⟨ks, e.trans h1, RepKs.ext r x kvs ks h2, h3⟩
  | ins c fs => obtain ⟨dx, gs, h1, h2⟩ := h; exact ⟨dx, gs, e.trans h1, RepFs.ext r x fs gs h2⟩
theorem RepO.some {a : Addr} {o : LO} (h : RepO tab K ca as H a o) : H a ≠ none := by
  cases o with
  | lst ds => obtain ⟨vs, h1, _⟩ := h; rw [h1]; simp
  | dic kvs => obtain ⟨ks, h1, _⟩ := h; rw [h1]; simp
  | ins c fs => obtain ⟨dx, gs, h1, _⟩ := h; rw [h1]; simp
theorem Rp.there (r : Rp tab K ca as L H) {b : Addr} (m : b ∈ as) : H b ≠ none := by
  rcases r.kind m with ⟨_, h⟩ | ⟨_, h⟩ | ⟨_, _, _, h⟩ <;> (rw [h]; simp)
/-- a thing that is not told of comes -/
theorem ext_fresh {p : Addr} (u : HO) (hp : H p = none) : Ext as H as (upd H p u) :=
  ⟨List.prefix_refl _, fun b o e _ => by rw [upd_ne (ne_of_none e hp)]; exact e, fun _ h n => absurd h n⟩
theorem Rp.fresh (r : Rp tab K ca as L H) {p : Addr} (u : HO) (hp : H p = none) : Rp tab K ca as L (upd H p u) :=
  ⟨r.len, r.nd, fun n o e => by
    obtain ⟨a, ea, ho⟩ := r.obj n o e
    refine ⟨a, ea, ho.ext r (ext_fresh u hp) (upd_ne fun z => ?_)⟩
    subst z; exact ho.some hp⟩
/-- an object comes -/
theorem ext_alloc {p : Addr} (u : HO) (hp : H p = none) : Ext as H (as ++ [p]) (upd H p u) :=
  ⟨List.prefix_append _ _, fun b o e _ => by rw [upd_ne (ne_of_none e hp)]; exact e, fun b h n => by
    rcases List.mem_append.mp h with h | h
    · exact absurd h n
    · rw [List.mem_singleton.mp h]; exact hp⟩
theorem Rp.alloc (r : Rp tab K ca as L H) {p : Addr} {u : HO} {o : LO} (hp : H p = none) (ho : RepO tab K ca (as ++ [p]) (upd H p u) p o) : Rp tab K ca (as ++ [p]) (L ++ [o]) (upd H p u) := by
  have hn : p ∉ as := fun m => r.there m hp
  refine ⟨by rw [List.length_append, List.length_append, r.len]; rfl, ?_, fun n o' e => ?_⟩
  · rw [List.nodup_append]
    exact ⟨r.nd, by simp, fun a ha b hb z => hn (by rw [List.mem_singleton.mp hb] at z; rw [← z]; exact ha)⟩
  · by_cases h : n < L.length
    · rw [List.getElem?_append_left h] at e
      obtain ⟨a, ea, ho'⟩ := r.obj n o' e
      refine ⟨a, (ext_alloc (as := as) u hp).at ea, ho'.ext r (ext_alloc u hp) (upd_ne fun z => ?_)⟩
      subst z; exact ho'.some hp
    · rw [List.getElem?_append_right (by omega)] at e
      have hz : n - L.length = 0 := by
        by_cases z : n - L.length = 0
        · exact z
        · rw [List.getElem?_eq_none (by simp; omega)] at e; cases e
      rw [hz] at e
      simp at e
      subst e
      have hn' : n = as.length := by rw [r.len]; omega
      exact ⟨p, by rw [hn']; simp, ho⟩
theorem nodup_at {α : Type} {l : List α} {i j : Nat} {x : α} (nd : l.Nodup) (h1 : l[i]? = some x) (h2 : l[j]? = some x) : i = j := by
  obtain ⟨a1, e1⟩ := List.getElem?_eq_some_iff.mp h1
  obtain ⟨a2, e2⟩ := List.getElem?_eq_some_iff.mp h2
  exact (List.getElem_inj nd).mp (e1.trans e2.symm)
/-- an object is written -/
theorem ext_write {n : Nat} {a : Addr} (u : HO) (ea : as[n]? = some a) : Ext as H as (upd H a u) :=
  ⟨List.prefix_refl _, fun b o e n => by rw [upd_ne fun z => n (by rw [z]; exact List.mem_of_getElem? ea)]; exact e, fun _ h n => absurd h n⟩
theorem Rp.write (r : Rp tab K ca as L H) {n : Nat} {a : Addr} {u : HO} {o : LO} (ea : as[n]? = some a) (ho : RepO tab K ca as (upd H a u) a o) : Rp tab K ca as (L.set n o) (upd H a u) := by
  refine ⟨by rw [List.length_set]; exact r.len, r.nd, fun m o' e => ?_⟩
  by_cases h : n = m
  · subst h
    have hl : n < L.length := by rw [← r.len]; exact (List.getElem?_eq_some_iff.mp ea).1
    rw [List.getElem?_set_self hl] at e
    cases e
    exact ⟨a, ea, ho⟩
  · rw [List.getElem?_set_ne h] at e
    obtain ⟨b, eb, hb⟩ := r.obj m o' e
    refine ⟨b, eb, hb.ext r (ext_write u ea) (upd_ne fun z => ?_)⟩
    subst z
    exact h (nodup_at r.nd ea eb)

/-! ### what a run's outcome is worth -/
variable (tab K ca) in
def SO {α : Type} (m : R α) (W : XK) (as : List Addr) (H : Hp) (Φ : α → LH → List Addr → Hp → Prop) : Prop := match m with
  | .ok v L' => ∀ as' H', Ext as H as' H' → Rp tab K ca as' L' H' → Φ v L' as' H'
  | .exc c L' => ∀ as' H', Ext as H as' H' → Rp tab K ca as' L' H' → W (.ref (ca c)) none H'
  | .bad => False
theorem SO.bind {α β : Type} {m : R α} {f : α → LH → R β} {W : XK} {Φ : β → LH → List Addr → Hp → Prop} (h : SO tab K ca (m.bind f) W as H Φ) : SO tab K ca m W as H fun v L' as' H' => SO tab K ca (f v L') W as' H' Φ := by
  cases m with
  | bad => exact h
  | exc c L' => exact h
  | ok v L' =>
    intro as' H' x r
    have h : SO tab K ca (f v L') W as H Φ := h
    cases e : f v L' with
    | bad => rw [e] at h; exact h
    | exc c L2 => rw [e] at h; exact fun as2 H2 x2 r2 => h as2 H2 (x.trans x2) r2
    | ok w L2 => rw [e] at h; exact fun as2 H2 x2 r2 => h as2 H2 (x.trans x2) r2
theorem SO.mono {α : Type} {m : R α} {W : XK} {Φ Ψ : α → LH → List Addr → Hp → Prop} (h : SO tab K ca m W as H Φ) (f : ∀ v L' as' H', Ext as H as' H' → Rp tab K ca as' L' H' → Φ v L' as' H' → Ψ v L' as' H') : SO tab K ca m W as H Ψ := by
  cases m with
  | bad => exact h
  | exc c L' => exact h
  | ok v L' => exact fun as' H' x r => f v L' as' H' x r (h as' H' x r)
theorem SO.here {α : Type} {v : α} {W : XK} {Φ : α → LH → List Addr → Hp → Prop} (r : Rp tab K ca as L H) (h : SO tab K ca (.ok v L) W as H Φ) : Φ v L as H := h as H .refl r
theorem SO.ext {α : Type} {m : R α} {W : XK} {Φ : α → LH → List Addr → Hp → Prop} (x : Ext as H as' H') (h : SO tab K ca m W as H Φ) : SO tab K ca m W as' H' Φ := by
  cases m with
  | bad => exact h
  | exc c L' => exact fun as2 H2 x2 r2 => h as2 H2 (x.trans x2) r2
  | ok v L' => exact fun as2 H2 x2 r2 => h as2 H2 (x.trans x2) r2
theorem SO.calm {α : Type} {m : R α} {W W' : XK} {Φ : α → LH → List Addr → Hp → Prop} (h : SO tab K ca m.calm W as H Φ) : SO tab K ca m W' as H Φ := by
  cases m with
  | bad => exact h
  | exc c L' => exact False.elim h
  | ok v L' => exact h

variable (tab K) in
def RepE (as : List Addr) (H : Hp) (ρ : Env) (σ : L2.St) : Prop := ρ.length = σ.length ∧ ∀ (i : Nat) (d : D), ρ[i]? = some (some d) → ∃ v, σ[i]? = some (some v) ∧ RepD tab K as H d v
theorem RepE.ext {ρ : Env} {σ : L2.St} (r : Rp tab K ca as L H) (x : Ext as H as' H') (h : RepE tab K as H ρ σ) : RepE tab K as' H' ρ σ :=
  ⟨h.1, fun i d e => let ⟨v, e', q⟩ := h.2 i d e; ⟨v, e', q.ext r x⟩⟩
theorem RepE.set {ρ : Env} {σ : L2.St} {i : Nat} {d : D} {v : V} (h : RepE tab K as H ρ σ) (q : RepD tab K as H d v) : RepE tab K as H (ρ.set i (some d)) (σ.set i (some v)) := by
  refine ⟨by simpa using h.1, fun j d' e => ?_⟩
  by_cases z : i = j
  · subst z
    by_cases hl : i < ρ.length
    · rw [List.getElem?_set_self hl] at e
      cases e
      exact ⟨v, by rw [List.getElem?_set_self (by rw [← h.1]; exact hl)], q⟩
    · rw [List.getElem?_eq_none (by simpa using hl)] at e; cases e
  · rw [List.getElem?_set_ne z] at e ⊢
    exact h.2 j d' e
theorem RepE.setN {ρ : Env} {σ : L2.St} {i : Nat} (h : RepE tab K as H ρ σ) : RepE tab K as H (ρ.set i none) (σ.set i none) := by
  refine ⟨by simpa using h.1, fun j d' e => ?_⟩
  by_cases z : i = j
  · subst z
    by_cases hl : i < ρ.length
    · rw [List.getElem?_set_self hl] at e; cases e
    · rw [List.getElem?_eq_none (by simpa using hl)] at e; cases e
  · rw [List.getElem?_set_ne z] at e ⊢
    exact h.2 j d' e
theorem RepE.wipe {ρ : Env} {σ : L2.St} (h : RepE tab K as H ρ σ) : ∀ l : List Nat, RepE tab K as H (Ev.wipe ρ l) (L2.wipe σ l)
  | [] => h
  | i :: r => (RepE.wipe h r).setN
end
end Ev

end
section
set_option linter.all false
set_option maxRecDepth 100000
/-! Ev: the operations, value by value, over the layer's rules. -/
namespace Ev
open PySem PySem.Spec L2

/-- the texts are apart, and plain -/
structure TabOk (tab : List Str) : Prop where
  nd : tab.Nodup
  ok : ∀ x ∈ tab, PyData.strOk x = true
  short : ∀ x ∈ tab, x.length ≤ 15

section
variable {tab : List Str} {K : PySem.W.Frag} {ca : Nat → Addr} {as as' as2 : List Addr} {L L' : LH} {H H' H2 : Hp}
theorem TabOk.mem (T : TabOk tab) {c : Nat} (h : c < tab.length) : tab.getD c ⟨#[]⟩ ∈ tab := by
  rw [List.getD_eq_getElem?_getD, List.getElem?_eq_getElem h]; exact List.getElem_mem h
theorem TabOk.inj (T : TabOk tab) {c d : Nat} (h : c < tab.length) (h' : d < tab.length) (e : tab.getD c ⟨#[]⟩ = tab.getD d ⟨#[]⟩) : c = d := by
  rw [List.getD_eq_getElem?_getD, List.getElem?_eq_getElem h, List.getD_eq_getElem?_getD, List.getElem?_eq_getElem h'] at e
  exact (List.getElem_inj T.nd).mp e
theorem TabOk.beq (T : TabOk tab) {c d : Nat} (h : c < tab.length) (h' : d < tab.length) : (tab.getD c ⟨#[]⟩ == tab.getD d ⟨#[]⟩) = (c == d) := by
  by_cases e : c = d
  · subst e; simp
  · have : tab.getD c ⟨#[]⟩ ≠ tab.getD d ⟨#[]⟩ := fun z => e (T.inj h h' z)
    rw [beq_eq_false_iff_ne.mpr this, beq_eq_false_iff_ne.mpr e]
mutual
theorem RepD.dp : ∀ (d : D) (v : V), d.pure = true → RepD tab K as H d v → Dp K H v (d.py tab)
  | .non, v, _, h => by rw [show v = .non from h]; exact .non
  | .bl b, v, _, h => by rw [show v = .bl b from h]; exact .bl b
  | .int i, v, _, h => by rw [show v = .int i from h]; exact .int i
  | .str c, v, _, h => by
    have h : c < tab.length ∧ v = .str (tab.getD c ⟨#[]⟩) := by simpa only [RepD] using h
    rw [h.2]; exact .str _
  | .txt s, _, p, _ => by simp [D.pure] at p
  | .tup ds, v, p, h => by
    simp only [RepD] at h
    obtain ⟨a, vs, rfl, h1, h2⟩ := h
    simp only [D.py]
    exact .tup h1 (RepDs.dp ds vs (by simpa [D.pure] using p) h2)
  | .ref n, _, p, _ => by simp [D.pure] at p
  | .scr ns, _, p, _ => by simp [D.pure] at p
  | .fn _, _, p, _ => by simp [D.pure] at p
theorem RepDs.dp : ∀ (ds : List D) (vs : List V), D.pures ds = true → RepDs tab K as H ds vs → DpAll K H vs (D.pys tab ds)
  | [], vs, _, h => by rw [show vs = [] from h]; exact .nil
  | d :: ds, vs, p, h => by
    obtain ⟨x, xs, rfl, h1, h2⟩ := h
    have p : d.pure = true ∧ D.pures ds = true := by simpa [D.pures] using p
    simp only [D.pys]
    exact .cons (RepD.dp d x p.1 h1) (RepDs.dp ds xs p.2 h2)
end
mutual
theorem D.py_depth (tab : List Str) : ∀ d : D, (d.py tab).depth ≤ d.dep
  | .non => by simp [D.py, PyData.depth]
  | .bl _ => by simp [D.py, PyData.depth]
  | .int _ => by simp [D.py, PyData.depth]
  | .str _ => by simp [D.py, PyData.depth]
  | .txt _ => by simp [D.py, PyData.depth]
  | .ref _ => by simp [D.py, PyData.depth]
  | .scr _ => by simp [D.py, PyData.depth]
  | .fn _ => by simp [D.py, PyData.depth]
  | .tup ds => by
    have := D.pys_depth tab ds
    simp only [D.py, PyData.depth, D.dep]
    omega
theorem D.pys_depth (tab : List Str) : ∀ ds : List D, PyData.depthAll (D.pys tab ds) ≤ D.deps ds
  | [] => by simp [D.pys, PyData.depthAll]
  | d :: ds => by
    have := D.pys_depth tab ds
    have := D.py_depth tab d
    simp only [D.pys, PyData.depthAll, D.deps]
    omega
end
mutual
theorem D.py_lay (T : TabOk tab) : ∀ (d : D) (v : V), d.pure = true → RepD tab K as H d v → (d.py tab).canLay0 = true
  | .non, _, _, _ => by simp [D.py, PyData.canLay0]
  | .bl _, _, _, _ => by simp [D.py, PyData.canLay0]
  | .int _, _, _, _ => by simp [D.py, PyData.canLay0]
  | .str c, v, _, h => by
    have h : c < tab.length ∧ v = .str (tab.getD c ⟨#[]⟩) := by simpa only [RepD] using h
    simp only [D.py, PyData.canLay0]
    exact T.ok _ (T.mem h.1)
  | .txt _, _, p, _ => by simp [D.pure] at p
  | .ref _, _, p, _ => by simp [D.pure] at p
  | .scr _, _, p, _ => by simp [D.pure] at p
  | .fn _, _, p, _ => by simp [D.pure] at p
  | .tup ds, v, p, h => by
    simp only [RepD] at h
    obtain ⟨a, vs, rfl, h1, h2⟩ := h
    simp only [D.py, PyData.canLay0]
    exact D.pys_lay T ds vs (by simpa [D.pure] using p) h2
theorem D.pys_lay (T : TabOk tab) : ∀ (ds : List D) (vs : List V), D.pures ds = true → RepDs tab K as H ds vs → PyData.canLayAll0 (D.pys tab ds) = true
  | [], _, _, _ => by simp [D.pys, PyData.canLayAll0]
  | d :: ds, vs, p, h => by
    obtain ⟨x, xs, rfl, h1, h2⟩ := h
    have p : d.pure = true ∧ D.pures ds = true := by simpa [D.pures] using p
    simp only [D.pys, PyData.canLayAll0, Bool.and_eq_true]
    exact ⟨D.py_lay T d x p.1 h1, D.pys_lay T ds xs p.2 h2⟩
end
mutual
theorem D.eqv_py (T : TabOk tab) : ∀ (a b : D) (v u : V), a.pure = true → b.pure = true → RepD tab K as H a v → RepD tab K as H b u → PyData.eqv (a.py tab) (b.py tab) = a.eqv b
  | .txt _, _, _, _, p, _, _, _ => by simp [D.pure] at p
  | .ref _, _, _, _, p, _, _, _ => by simp [D.pure] at p
  | .scr _, _, _, _, p, _, _, _ => by simp [D.pure] at p
  | .fn _, _, _, _, p, _, _, _ => by simp [D.pure] at p
  | .non, b, _, _, _, q, _, _ => by cases b <;> first | rfl | (simp [D.pure] at q) | simp [D.py, PyData.eqv, D.eqv]
  | .bl _, b, _, _, _, q, _, _ => by cases b <;> first | rfl | (simp [D.pure] at q) | simp [D.py, PyData.eqv, D.eqv]
  | .int _, b, _, _, _, q, _, _ => by cases b <;> first | rfl | (simp [D.pure] at q) | simp [D.py, PyData.eqv, D.eqv]
  | .str c, b, v, u, _, q, hv, hu => by
    cases b with
    | str d =>
      simp only [RepD] at hv hu
      simp only [D.py, PyData.eqv, D.eqv]
      exact T.beq hv.1 hu.1
    | _ => first | rfl | (simp [D.pure] at q) | simp [D.py, PyData.eqv, D.eqv]
  | .tup xs, b, v, u, p, q, hv, hu => by
    cases b with
    | tup ys =>
      simp only [RepD] at hv hu
      obtain ⟨a1, vs, rfl, _, h2⟩ := hv
      obtain ⟨a2, us, rfl, _, g2⟩ := hu
      simp only [D.py, PyData.eqv, D.eqv]
      exact D.eqvs_py T xs ys vs us (by simpa [D.pure] using p) (by simpa [D.pure] using q) h2 g2
    | _ => first | rfl | (simp [D.pure] at q) | simp [D.py, PyData.eqv, D.eqv]
theorem D.eqvs_py (T : TabOk tab) : ∀ (a b : List D) (v u : List V), D.pures a = true → D.pures b = true → RepDs tab K as H a v → RepDs tab K as H b u → PyData.eqvAll (D.pys tab a) (D.pys tab b) = D.eqvs a b
  | [], b, _, _, _, _, _, _ => by cases b <;> simp [D.pys, PyData.eqvAll, D.eqvs]
  | x :: xs, b, v, u, p, q, hv, hu => by
    cases b with
    | nil => simp [D.pys, PyData.eqvAll, D.eqvs]
    | cons y ys =>
      obtain ⟨v1, vs, rfl, h1, h2⟩ := hv
      obtain ⟨u1, us, rfl, g1, g2⟩ := hu
      have p : x.pure = true ∧ D.pures xs = true := by simpa [D.pures] using p
      have q : y.pure = true ∧ D.pures ys = true := by simpa [D.pures] using q
      simp only [D.pys, PyData.eqvAll, D.eqvs]
      rw [D.eqv_py T x y v1 u1 p.1 q.1 h1 g1, D.eqvs_py T xs ys vs us p.2 q.2 h2 g2]
end
/-- a list of the heap -/
theorem Rp.lst (r : Rp tab K ca as L H) {n : Nat} {ds : List D} {a : Addr} (e : L[n]? = some (.lst ds)) (ea : as[n]? = some a) : ∃ vs, H a = some (.lst vs) ∧ RepDs tab K as H ds vs := by
  obtain ⟨b, eb, h⟩ := r.obj n _ e
  rw [ea] at eb; cases eb
  exact h
theorem Rp.dic (r : Rp tab K ca as L H) {n : Nat} {ds : List (Ky × D)} {a : Addr} (e : L[n]? = some (.dic ds)) (ea : as[n]? = some a) : ∃ vs, H a = some (.dK vs) ∧ RepKs tab K as H ds vs ∧ (ds.map (·.1)).Nodup := by
  obtain ⟨b, eb, h⟩ := r.obj n _ e
  rw [ea] at eb; cases eb
  exact h
theorem Rp.ins (r : Rp tab K ca as L H) {n c : Nat} {fs : List (Nat × D)} {a : Addr} (e : L[n]? = some (.ins c fs)) (ea : as[n]? = some a) : ∃ dx gs, H a = some (.ins (ca c) dx gs) ∧ RepFs tab K as H fs gs := by
  obtain ⟨b, eb, h⟩ := r.obj n _ e
  rw [ea] at eb; cases eb
  exact h
/-! ### a result that is there -/
abbrev K1 (tab : List Str) (K : PySem.W.Frag) (Q : VK) : D → LH → List Addr → Hp → Prop := fun v _ as' H' => ∀ z, RepD tab K as' H' v z → Q z H'
theorem SO.val {d : D} {v : V} {W : XK} {Q : VK} (r : Rp tab K ca as L H) (h : SO tab K ca (.ok d L) W as H (K1 tab K Q)) (q : RepD tab K as H d v) : Q v H := h as H .refl r v q
theorem SO.okB {b : Option Bool} {W : XK} {Q : VK} (r : Rp tab K ca as L H) (h : SO tab K ca (okB L b) W as H (K1 tab K Q)) : ∃ k, b = some k ∧ Q (.bl k) H := by
  cases b with
  | none => exact h.elim
  | some k => exact ⟨k, rfl, h.val r rfl⟩
theorem SO.tup {ds : List D} {vs : List V} {W : XK} {Q : VK} {p : Addr} (r : Rp tab K ca as L H) (h : SO tab K ca (.ok (.tup ds) L) W as H (K1 tab K Q)) (q : RepDs tab K as H ds vs) (hp : H p = none) : Q (.ref p) (upd H p (.tup vs)) := by
  have x := ext_fresh (as := as) (.tup vs) hp
  refine h as _ x (r.fresh _ hp) _ ?_
  simp only [RepD]
  exact ⟨p, vs, rfl, .inl (.inl upd_same), RepDs.ext r x _ _ q⟩
theorem SO.list {ds : List D} {vs : List V} {W : XK} {Q : VK} {p : Addr} (r : Rp tab K ca as L H) (h : SO tab K ca (.ok (.ref L.length) (L ++ [.lst ds])) W as H (K1 tab K Q)) (q : RepDs tab K as H ds vs) (hp : H p = none) : Q (.ref p) (upd H p (.lst vs)) := by
  have x := ext_alloc (as := as) (.lst vs) hp
  refine h (as ++ [p]) _ x (r.alloc hp ⟨vs, upd_same, RepDs.ext r x _ _ q⟩) _ ?_
  simp only [RepD]
  exact ⟨p, by rw [← r.len]; simp, rfl⟩
end
end Ev

end
section
set_option linter.all false
set_option maxRecDepth 100000
namespace Ev
open PySem PySem.Spec L2

/-- where one stands -/
structure XO (X : Cx) : Prop where
  calm : X.calm = true
  hu : X.A.units + 200 < cLine
  gd : X.A.guards = some []
def cmOf : Cm → CmpOp
  | .eq => .Eq | .ne => .NotEq | .lt => .Lt | .le => .LtE | .gt => .Gt | .ge => .GtE | .isin => .In | .notin => .NotIn
def opOf : Op → Operator
  | .add => .Add | .sub => .Sub | .mul => .Mult | .fdiv => .FloorDiv | .mod => .Mod | .pow => .Pow
section
variable (tab : List Str) (K : PySem.W.Frag) (ca : Nat → Addr)
def rd2 (m : LH → D → D → R D) (W : XK) : R2 := fun x y H Q => ∃ as L dx dy, Rp tab K ca as L H ∧ RepD tab K as H dx x ∧ RepD tab K as H dy y ∧ SO tab K ca (m L dx dy) W as H (K1 tab K Q)
def rd1 (m : LH → D → R D) (W : XK) : V → Hp → VK → Prop := fun x H Q => ∃ as L dx, Rp tab K ca as L H ∧ RepD tab K as H dx x ∧ SO tab K ca (m L dx) W as H (K1 tab K Q)
def rds (m : LH → List D → R D) (W : XK) : List V → Hp → VK → Prop := fun xs H Q => ∃ as L ds, Rp tab K ca as L H ∧ RepDs tab K as H ds xs ∧ SO tab K ca (m L ds) W as H (K1 tab K Q)
end
section
variable {X : Cx} {tab : List Str} {ca : Nat → Addr} {W : XK}
theorem depth_min {a b n u : Nat} (h : a ≤ n) (hn : n ≤ 190) (hu : u + 200 < cLine) : u + min a b < cLine := by
  have := Nat.min_le_left a b
  omega
/-- equality, as the data say -/
theorem eq_any (T : TabOk tab) (O : XO X) {pins : List (Addr × Obj)} {s : Shared} {σ : L2.St} {H : Hp} {x y : V} {v u : Value} {Q : Value → Shared → Prop} {E : Value → Shared → Prop} {as : List Addr} {L : LH} {a b : D} {k : Bool} (I : L2.Inv X pins σ H s) (rx : RelV x v) (ry : RelV y u)
    (r : Rp tab X.K ca as L H) (ha : RepD tab X.K as H a x) (hb : RepD tab X.K as H b y) (e : eqR L a b = some k) :
    (Q (.bool k) s → wpAny (model X.prog X.w) X.A (compareOp .Eq v u) Q E s) ∧ (Q (.bool (!k)) s → wpAny (model X.prog X.w) X.A (compareOp .NotEq v u) Q E s) := by
  have pureCase : a.pure = true → b.pure = true → a.dep ≤ 180 → k = a.eqv b →
      (Q (.bool k) s → wpAny (model X.prog X.w) X.A (compareOp .Eq v u) Q E s) ∧ (Q (.bool (!k)) s → wpAny (model X.prog X.w) X.A (compareOp .NotEq v u) Q E s) := by
    intro pa pb dp ek
    obtain ⟨as1, r1⟩ := Dp.reads I _ _ _ (RepD.dp a x pa ha) rx
    obtain ⟨as2, r2⟩ := Dp.reads I _ _ _ (RepD.dp b y pb hb) ry
    have d1 := D.py_depth tab a
    rw [ek, ← D.eqv_py T a b x y pa pb ha hb]
    exact ⟨fun q => SeqAt.compareEq_reads r1 r2 (D.py_lay T a x pa ha) (D.py_lay T b y pb hb) (depth_min (Nat.le_trans d1 dp) (by omega) O.hu) q,
      fun q => SeqAt.compareNe_reads r1 r2 (D.py_lay T a x pa ha) (D.py_lay T b y pb hb) (depth_min (Nat.le_trans d1 dp) (by omega) O.hu) q⟩
  have dflt : (if (a.pure && b.pure && decide (a.dep ≤ 180)) = true then some (a.eqv b) else none) = some k → 
      (Q (.bool k) s → wpAny (model X.prog X.w) X.A (compareOp .Eq v u) Q E s) ∧ (Q (.bool (!k)) s → wpAny (model X.prog X.w) X.A (compareOp .NotEq v u) Q E s) := by
    intro e
    by_cases c : (a.pure && b.pure && decide (a.dep ≤ 180)) = true
    · rw [if_pos c] at e
      simp only [Bool.and_eq_true, decide_eq_true_eq] at c
      exact pureCase c.1.1 c.1.2 c.2 (Option.some.inj e).symm
    · rw [if_neg c] at e; cases e
  cases a with
  | ref n =>
    cases b with
    | ref m =>
      simp only [eqR] at e
      cases e1 : L[n]? with
      | none => rw [e1] at e; cases e
      | some o1 =>
        cases e2 : L[m]? with
        | none => rw [e1, e2] at e; cases o1 <;> cases e
        | some o2 =>
          rw [e1, e2] at e
          cases o1 with
          | lst xs =>
            cases o2 with
            | lst ys =>
              simp only [RepD] at ha hb
              obtain ⟨p, ep, rfl⟩ := ha
              obtain ⟨q, eq, rfl⟩ := hb
              obtain ⟨vs, h1, h2⟩ := r.lst e1 ep
              obtain ⟨us, g1, g2⟩ := r.lst e2 eq
              by_cases c : (D.pures xs && D.pures ys && decide (D.deps xs ≤ 180)) = true
              · simp only [if_pos c] at e
                simp only [Bool.and_eq_true, decide_eq_true_eq] at c
                obtain ⟨as1, r1⟩ := Dp.reads I (.list (D.pys tab xs)) (.ref p) v (.lst (SqL.of h1) (RepDs.dp xs vs c.1.1 h2)) rx
                obtain ⟨as2, r2⟩ := Dp.reads I (.list (D.pys tab ys)) (.ref q) u (.lst (SqL.of g1) (RepDs.dp ys us c.1.2 g2)) ry
                have d1 := D.pys_depth tab xs
                have ek : k = PyData.eqv (.list (D.pys tab xs)) (.list (D.pys tab ys)) := by
                  simp only [PyData.eqv]
                  rw [D.eqvs_py T xs ys vs us c.1.1 c.1.2 h2 g2]
                  exact (Option.some.inj e).symm
                have dd : (PyData.list (D.pys tab xs)).depth ≤ 181 := by simp only [PyData.depth]; omega
                have l1 : (PyData.list (D.pys tab xs)).canLay0 = true := by simp only [PyData.canLay0]; exact D.pys_lay T xs vs c.1.1 h2
                have l2 : (PyData.list (D.pys tab ys)).canLay0 = true := by simp only [PyData.canLay0]; exact D.pys_lay T ys us c.1.2 g2
                rw [ek]
                exact ⟨fun q => SeqAt.compareEq_reads r1 r2 l1 l2 (depth_min dd (by omega) O.hu) q, fun q => SeqAt.compareNe_reads r1 r2 l1 l2 (depth_min dd (by omega) O.hu) q⟩
              · simp only [if_neg c] at e; cases e
            | _ => cases e
          | _ => cases e
    | _ => exact dflt e
  | txt z =>
    cases b with
    | txt z' =>
      simp only [RepD] at ha hb
      subst ha hb
      simp only [eqR] at e
      cases e
      obtain ⟨t, rfl⟩ := rx
      obtain ⟨t', rfl⟩ := ry
      refine ⟨fun q => ?_, fun q => ?_⟩
      · exact PyProof.Rows.eq_str (by rw [← Bool.beq_eq_decide_eq] at q; exact q)
      · exact PyProof.Rows.ne_str (by rw [← Bool.beq_eq_decide_eq] at q; exact q)
    | _ => exact dflt e
  | _ => exact dflt e
end
end Ev

end
section
set_option linter.all false
set_option maxRecDepth 100000
namespace Ev
open PySem PySem.Spec L2
theorem most_eq : most = sizeLine := by rw [sizeLine_eq]; rfl
section
variable {tab : List Str} {K : PySem.W.Frag} {ca : Nat → Addr} {as as' as2 : List Addr} {L L' : LH} {H H' H2 : Hp}
theorem kyV_inj (T : TabOk tab) {k k' : Ky} (h : kyOk tab k) (h' : kyOk tab k') (e : kyV tab k = kyV tab k') : k = k' := by
  cases k with
  | i n => cases k' with
    | i m => simp only [kyV] at e; rw [Sum.inl.inj e]
    | s c => simp only [kyV] at e; cases e
  | s c => cases k' with
    | i m => simp only [kyV] at e; cases e
    | s d => simp only [kyV] at e; rw [T.inj h h' (Sum.inr.inj e)]
theorem keyOf_rep {d : D} {v : V} {k : Ky} (h : RepD tab K as H d v) (e : keyOf d = some k) : v = kV (kyV tab k) ∧ kyOk tab k := by
  cases d with
  | int i => cases e; exact ⟨h, True.intro⟩
  | str c => cases e; simp only [RepD] at h; exact ⟨h.2, h.1⟩
  | _ => cases e
theorem RepKs.val (T : TabOk tab) {k : Ky} (hk : kyOk tab k) : ∀ {kvs : List (Ky × D)} {ks : List (Key × V)}, RepKs tab K as H kvs ks →
    match getK k kvs with
    | some d => ∃ v, valV ks (kyV tab k) = some v ∧ RepD tab K as H d v
    | none => valV ks (kyV tab k) = none
  | [], ks, h => by rw [show ks = [] from h]; rfl
  | (k', d) :: kvs, ks, h => by
    obtain ⟨x, xs, rfl, h0, h1, h2⟩ := h
    simp only [getK]
    by_cases e : k = k'
    · subst e
      rw [if_pos rfl]
      exact ⟨x, valV_pos rfl, h1⟩
    · rw [if_neg e]
      have ne : ¬ (kyV tab k', x).1 = kyV tab k := fun z => e (kyV_inj T hk h0 z.symm)
      rw [valV_neg ne]
      exact RepKs.val T hk h2
theorem RepKs.len : ∀ {kvs : List (Ky × D)} {ks : List (Key × V)}, RepKs tab K as H kvs ks → ks.length = kvs.length
  | [], ks, h => by rw [show ks = [] from h]; rfl
  | (k', d) :: kvs, ks, h => by
    obtain ⟨x, xs, rfl, h0, h1, h2⟩ := h
    rw [List.length_cons, List.length_cons, RepKs.len h2]
theorem RepKs.keys (T : TabOk tab) {k : Ky} (hk : kyOk tab k) : ∀ {kvs : List (Ky × D)} {ks : List (Key × V)}, RepKs tab K as H kvs ks → (ks.any fun kv => decide (kv.1 = kyV tab k)) = (kvs.any fun kv => decide (kv.1 = k))
  | [], ks, h => by rw [show ks = [] from h]; rfl
  | (k', d) :: kvs, ks, h => by
    obtain ⟨x, xs, rfl, h0, h1, h2⟩ := h
    rw [List.any_cons, List.any_cons, RepKs.keys T hk h2]
    congr 1
    by_cases e : k' = k
    · subst e; simp
    · have : ¬ kyV tab k' = kyV tab k := fun z => e (kyV_inj T h0 hk z)
      simp [e, this]
theorem putK_there {κ : Type} [DecidableEq κ] (k : κ) (v : D) : ∀ l : List (κ × D), (l.any fun kv => decide (kv.1 = k)) = false → putK k v l = l ++ [(k, v)]
  | [], _ => rfl
  | (k', v') :: r, h => by
    rw [List.any_cons, Bool.or_eq_false_iff] at h
    have h1 : ¬ k' = k := by simpa using h.1
    simp only [putK]
    rw [if_neg h1, putK_there k v r h.2]
    rfl
theorem RepKs.append : ∀ {kvs : List (Ky × D)} {ks : List (Key × V)} {k : Ky} {d : D} {v : V}, RepKs tab K as H kvs ks → kyOk tab k → RepD tab K as H d v → RepKs tab K as H (kvs ++ [(k, d)]) (ks ++ [(kyV tab k, v)])
  | [], ks, k, d, v, h, hk, hd => by rw [show ks = [] from h]; exact ⟨v, [], rfl, hk, hd, rfl⟩
  | (k', d') :: kvs, ks, k, d, v, h, hk, hd => by
    obtain ⟨x, xs, rfl, h0, h1, h2⟩ := h
    exact ⟨x, _, rfl, h0, h1, RepKs.append h2 hk hd⟩
/-- keys are apart in ks -/
theorem RepKs.map (T : TabOk tab) {k : Ky} {d : D} {v : V} (hk : kyOk tab k) (hd : RepD tab K as H d v) : ∀ {kvs : List (Ky × D)} {ks : List (Key × V)}, RepKs tab K as H kvs ks → (kvs.map (·.1)).Nodup → (kvs.any fun kv => decide (kv.1 = k)) = true →
    RepKs tab K as H (putK k d kvs) (ks.map fun kv => if kv.1 = kyV tab k then (kv.1, v) else kv)
  | [], ks, h, _, a => by simp at a
  | (k', d') :: kvs, ks, h, nd, a => by
    obtain ⟨x, xs, rfl, h0, h1, h2⟩ := h
    simp only [putK, List.map_cons]
    rw [List.map_cons, List.nodup_cons] at nd
    by_cases e : k' = k
    · subst e
      rw [if_pos rfl, if_pos rfl]
      refine ⟨v, _, rfl, h0, hd, ?_⟩
      have : xs.map (fun kv => if kv.1 = kyV tab k' then (kv.1, v) else kv) = xs := by
        have all : ∀ {kvs : List (Ky × D)} {ks : List (Key × V)}, RepKs tab K as H kvs ks → k' ∉ kvs.map (·.1) → ks.map (fun kv => if kv.1 = kyV tab k' then (kv.1, v) else kv) = ks := by
          intro kvs
          induction kvs with
          | nil => intro ks h _; rw [show ks = [] from h]; rfl
          | cons p r ih =>
            intro ks h n
            obtain ⟨k2, d2⟩ := p
            obtain ⟨y, ys, rfl, g0, g1, g2⟩ := h
            rw [List.map_cons, List.mem_cons, not_or] at n
            rw [List.map_cons, ih g2 n.2, if_neg]
            exact fun z => n.1 (kyV_inj T h0 g0 z.symm)
        exact all h2 nd.1
      rw [this]; exact h2
    · rw [if_neg e, if_neg fun z => e (kyV_inj T h0 hk z)]
      refine ⟨x, _, rfl, h0, h1, RepKs.map T hk hd h2 nd.2 ?_⟩
      rw [List.any_cons] at a
      simpa [e] using a
end
section
variable {X : Cx} {tab : List Str} {ca : Nat → Addr} {W : XK}
theorem SO.cast {tab : List Str} {K : PySem.W.Frag} {α : Type} {m m' : R α} {as : List Addr} {H : Hp} {Φ : α → LH → List Addr → Hp → Prop} (h : SO tab K ca m W as H Φ) (e : m = m') : SO tab K ca m' W as H Φ := e ▸ h
theorem in_any (T : TabOk tab) (O : XO X) {pins : List (Addr × Obj)} {s : Shared} {σ : L2.St} {H : Hp} {x y : V} {v u : Value} {Q : Value → Shared → Prop} {E : Value → Shared → Prop} {as : List Addr} {L : LH} {a b : D} {k : Bool} (I : L2.Inv X pins σ H s) (rx : RelV x v) (ry : RelV y u)
    (r : Rp tab X.K ca as L H) (ha : RepD tab X.K as H a x) (hb : RepD tab X.K as H b y) (e : inR L a b = some k) :
    ((∀ s', L2.Inv X pins σ H s' → Q (.bool k) s') → wpAny (model X.prog X.w) X.A (compareOp .In v u) Q E s) ∧ ((∀ s', L2.Inv X pins σ H s' → Q (.bool (!k)) s') → wpAny (model X.prog X.w) X.A (compareOp .NotIn v u) Q E s) := by
  have anyq : ∀ (xs : List D) (vs : List V), D.pures xs = true → a.pure = true → RepDs tab X.K as H xs vs → ((D.pys tab xs).any fun z => PyData.eqv z (a.py tab)) = xs.any fun z => z.eqv a := by
    intro xs
    induction xs with
    | nil => intro vs _ _ _; rfl
    | cons d ds ih =>
      intro vs p pa h
      obtain ⟨z, zs, rfl, h1, h2⟩ := h
      have p : d.pure = true ∧ D.pures ds = true := by simpa [D.pures] using p
      simp only [D.pys, List.any_cons]
      rw [ih zs p.2 pa h2, D.eqv_py T d a z x p.1 pa h1 ha]
  cases b with
  | tup xs =>
    simp only [inR] at e
    by_cases c : (a.pure && D.pures xs && decide (D.deps xs ≤ 180)) = true
    · rw [if_pos c] at e
      simp only [Bool.and_eq_true, decide_eq_true_eq] at c
      have hb' := hb
      simp only [RepD] at hb
      obtain ⟨p, vs, rfl, h1, h2⟩ := hb
      obtain ⟨as1, r1⟩ := Dp.reads I _ _ _ (RepD.dp a x c.1.1 ha) rx
      obtain ⟨as2, r2⟩ := Dp.reads I (.tuple (D.pys tab xs)) (.ref p) u (.tup h1 (RepDs.dp xs vs c.1.2 h2)) ry
      have d1 := D.pys_depth tab xs
      have hu : X.A.units + 1 + min (PyData.depthAll (D.pys tab xs)) (a.py tab).depth < cLine := by
        have := O.hu
        have := Nat.min_le_left (PyData.depthAll (D.pys tab xs)) (a.py tab).depth
        omega
      have ek : (((D.pys tab xs).any fun z => PyData.eqv z (a.py tab))) = k := by rw [anyq xs vs c.1.2 c.1.1 h2]; exact Option.some.inj e
      refine ⟨fun q => ?_, fun q => ?_⟩
      · exact SeqAt.in_tuple_reads r2 r1 (D.pys_lay T xs vs c.1.2 h2) (D.py_lay T a x c.1.1 ha) hu (by rw [ek]; exact q s I)
      · exact SeqAt.notIn_tuple_reads r2 r1 (D.pys_lay T xs vs c.1.2 h2) (D.py_lay T a x c.1.1 ha) hu (by rw [ek]; exact q s I)
    · rw [if_neg c] at e; cases e
  | ref n =>
    simp only [inR] at e
    simp only [RepD] at hb
    obtain ⟨p, ep, rfl⟩ := hb
    cases e1 : L[n]? with
    | none => rw [e1] at e; cases e
    | some o =>
      rw [e1] at e
      cases o with
      | lst xs =>
        obtain ⟨vs, h1, h2⟩ := r.lst e1 ep
        by_cases c : (a.pure && D.pures xs && decide (D.deps xs ≤ 180)) = true
        · simp only [if_pos c] at e
          simp only [Bool.and_eq_true, decide_eq_true_eq] at c
          obtain ⟨as1, r1⟩ := Dp.reads I _ _ _ (RepD.dp a x c.1.1 ha) rx
          obtain ⟨as2, r2⟩ := Dp.reads I (.list (D.pys tab xs)) (.ref p) u (.lst (SqL.of h1) (RepDs.dp xs vs c.1.2 h2)) ry
          have d1 := D.pys_depth tab xs
          have hu : X.A.units + 1 + min (PyData.depthAll (D.pys tab xs)) (a.py tab).depth < cLine := by
            have := O.hu
            have := Nat.min_le_left (PyData.depthAll (D.pys tab xs)) (a.py tab).depth
            omega
          have ek : (((D.pys tab xs).any fun z => PyData.eqv z (a.py tab))) = k := by rw [anyq xs vs c.1.2 c.1.1 h2]; exact Option.some.inj e
          refine ⟨fun q => ?_, fun q => ?_⟩
          · exact SeqAt.in_list_reads r2 r1 (D.pys_lay T xs vs c.1.2 h2) (D.py_lay T a x c.1.1 ha) hu (by rw [ek]; exact q s I)
          · exact SeqAt.notIn_list_reads r2 r1 (D.pys_lay T xs vs c.1.2 h2) (D.py_lay T a x c.1.1 ha) hu (by rw [ek]; exact q s I)
        · simp only [if_neg c] at e; cases e
      | dic kvs =>
        obtain ⟨ks, h1, h2, _⟩ := r.dic e1 ep
        cases ek : keyOf a with
        | none => simp only [ek] at e; cases e
        | some ky =>
          simp only [ek] at e
          obtain ⟨rfl, ok⟩ := keyOf_rep ha ek
          cases (show u = Value.ref p from ry)
          have g : DGet H p (kV (kyV tab ky)) (valV ks (kyV tab ky)) := .inl ⟨ks, _, .inl h1, rfl, rfl⟩
          have es : (valV ks (kyV tab ky)).isSome = k := by
            have q := RepKs.val T ok h2
            cases eg : getK ky kvs with
            | none => rw [eg] at q e; simp only at q; rw [q]; exact Option.some.inj e
            | some d => rw [eg] at q e; simp only at q; obtain ⟨w, q, _⟩ := q; rw [q]; exact Option.some.inj e
          have hu : X.A.units + 1 < cLine := by have := O.hu; omega
          exact ⟨fun q => d_in hu I g rx fun s3 I3 => by rw [es]; exact q s3 I3, fun q => d_notIn hu I g rx fun s3 I3 => by rw [es]; exact q s3 I3⟩
      | ins c fs => cases e
  | _ => cases e
theorem op_cmp (T : TabOk tab) (O : XO X) (o : Cm) : OpR X (compareOp (cmOf o)) (rd2 tab X.K ca (fun L a b => okB L (cmpR o L a b)) W) := by
  intro pins s σ H x y v u Q I rx ry h
  obtain ⟨as, L, a, b, r, ha, hb, h⟩ := h
  obtain ⟨k, ek, q⟩ := h.okB r
  cases o with
  | eq => exact (eq_any T O I rx ry r ha hb ek).1 ⟨.bl k, H, I, rfl, q⟩
  | ne =>
    obtain ⟨k', e', rfl⟩ := Option.map_eq_some_iff.mp ek
    exact (eq_any T O I rx ry r ha hb e').2 ⟨.bl (!k'), H, I, rfl, q⟩
  | isin => exact (in_any T O I rx ry r ha hb ek).1 fun s' I' => ⟨.bl k, H, I', rfl, q⟩
  | notin =>
    obtain ⟨k', e', rfl⟩ := Option.map_eq_some_iff.mp ek
    exact (in_any T O I rx ry r ha hb e').2 fun s' I' => ⟨.bl (!k'), H, I', rfl, q⟩
  | lt =>
    simp only [cmpR] at ek
    split at ek
    · cases ek; simp only [RepD] at ha hb; subst ha hb; exact op_lt pins s σ H _ _ v u Q I rx ry ⟨_, _, rfl, rfl, q⟩
    · cases ek
  | le =>
    simp only [cmpR] at ek
    split at ek
    · cases ek; simp only [RepD] at ha hb; subst ha hb; exact op_le pins s σ H _ _ v u Q I rx ry ⟨_, _, rfl, rfl, q⟩
    · cases ek
  | gt =>
    simp only [cmpR] at ek
    split at ek
    · cases ek; simp only [RepD] at ha hb; subst ha hb; exact op_gt pins s σ H _ _ v u Q I rx ry ⟨_, _, rfl, rfl, q⟩
    · cases ek
  | ge =>
    simp only [cmpR] at ek
    split at ek
    · cases ek; simp only [RepD] at ha hb; subst ha hb; exact op_ge pins s σ H _ _ v u Q I rx ry ⟨_, _, rfl, rfl, q⟩
    · cases ek
end
end Ev

end
section
set_option linter.all false
set_option maxRecDepth 100000
namespace Ev
open PySem PySem.Spec L2
section
variable {X : Cx} {tab : List Str} {ca : Nat → Addr} {W : XK}
theorem op_bin (o : Op) : OpR X (binaryOp (opOf o)) (rd2 tab X.K ca (binR o) W) := by
  intro pins s σ H x y v u Q I rx ry h
  obtain ⟨as, L, a, b, r, ha, hb, h⟩ := h
  cases o with
  | add =>
    cases a with
    | int i =>
      cases b with
      | int j => simp only [RepD] at ha hb; subst ha hb; exact op_add pins s σ H _ _ v u Q I rx ry ⟨_, _, rfl, rfl, h.val r rfl⟩
      | _ => exact h.elim
    | tup xs =>
      cases b with
      | tup ys =>
        simp only [binR] at h
        by_cases c : xs.length + ys.length ≤ most
        · rw [if_pos c] at h
          have hb0 := hb
          have ha0 := ha
          simp only [RepD] at ha hb
          obtain ⟨p, vs, rfl, h1, h2⟩ := ha
          obtain ⟨q, us, rfl, g1, g2⟩ := hb
          have l1 := h2.length
          have l2 := g2.length
          refine op_catA pins s σ H _ _ v u Q I rx ry ⟨p, q, vs, us, rfl, rfl, h1, g1, by rw [← l1, ← l2, ← most_eq]; exact c, fun e => ?_, fun e e' => ?_, fun _ _ z hz => h.tup r (h2.append g2) hz⟩
          · subst e
            have : xs = [] := List.eq_nil_of_length_eq_zero l1
            subst this
            exact h.val r hb0
          · subst e'
            have : ys = [] := List.eq_nil_of_length_eq_zero l2
            subst this
            rw [List.append_nil] at h
            exact h.val r ha0
        · rw [if_neg c] at h; exact h.elim
      | _ => exact h.elim
    | ref n =>
      cases b with
      | ref m =>
        simp only [binR] at h
        cases e1 : L[n]? with
        | none => rw [e1] at h; exact h.elim
        | some o1 =>
          rw [e1] at h
          cases o1 with
          | lst xs =>
            cases e2 : L[m]? with
            | none => rw [e2] at h; exact h.elim
            | some o2 =>
              rw [e2] at h
              cases o2 with
              | lst ys =>
                simp only [RepD] at ha hb
                obtain ⟨p, ep, rfl⟩ := ha
                obtain ⟨q, eq, rfl⟩ := hb
                obtain ⟨vs, h1, h2⟩ := r.lst e1 ep
                obtain ⟨us, g1, g2⟩ := r.lst e2 eq
                by_cases c : xs.length + ys.length ≤ most
                · simp only [if_pos c] at h
                  refine op_cat pins s σ H _ _ v u Q I rx ry ⟨p, q, vs, us, rfl, rfl, h1, g1, by rw [← h2.length, ← g2.length, ← most_eq]; exact c, fun z hz => h.list r (h2.append g2) hz⟩
                · simp only [if_neg c] at h; exact h.elim
              | _ => exact h.elim
          | _ => exact h.elim
      | _ => exact h.elim
    | _ => exact h.elim
  | sub =>
    cases a with
    | int i =>
      cases b with
      | int j => simp only [RepD] at ha hb; subst ha hb; exact op_sub pins s σ H _ _ v u Q I rx ry ⟨_, _, rfl, rfl, h.val r rfl⟩
      | _ => exact h.elim
    | _ => exact h.elim
  | mul =>
    cases a with
    | int i =>
      cases b with
      | int j =>
        simp only [binR] at h
        by_cases c : (-(2 ^ 64) < i ∧ i < 2 ^ 64) ∨ (-(2 ^ 64) < j ∧ j < 2 ^ 64)
        · rw [if_pos c] at h
          simp only [RepD] at ha hb; subst ha hb; exact op_mul pins s σ H _ _ v u Q I rx ry ⟨_, _, rfl, rfl, c, h.val r rfl⟩
        · rw [if_neg c] at h; exact h.elim
      | _ => exact h.elim
    | tup xs =>
      cases b with
      | int k =>
        simp only [binR] at h
        by_cases c : 2 ≤ k ∧ k ≤ 1000 ∧ xs.length ≤ 1000 ∧ xs.isEmpty = false
        · rw [if_pos c] at h
          simp only [RepD] at ha hb; subst hb
          obtain ⟨p, vs, rfl, h1, h2⟩ := ha
          have l1 := h2.length
          refine op_repT pins s σ H _ _ v u Q I rx ry ⟨p, k, vs, rfl, rfl, h1, ?_, c.1, c.2.1, by omega, fun z hz => h.tup r (h2.rep k.toNat) hz⟩
          rintro rfl
          have : xs = [] := List.eq_nil_of_length_eq_zero l1
          subst this
          exact absurd c.2.2.2 (by simp)
        · rw [if_neg c] at h; exact h.elim
      | _ => exact h.elim
    | ref n =>
      cases b with
      | int k =>
        simp only [binR] at h
        cases e1 : L[n]? with
        | none => rw [e1] at h; exact h.elim
        | some o1 =>
          rw [e1] at h
          cases o1 with
          | lst xs =>
            simp only [RepD] at ha hb; subst hb
            obtain ⟨p, ep, rfl⟩ := ha
            obtain ⟨vs, h1, h2⟩ := r.lst e1 ep
            by_cases c : 0 ≤ k ∧ k < 1000 ∧ xs.length < 1000
            · simp only [if_pos c] at h
              have l1 := h2.length
              have : vs.length * k.toNat ≤ 1000 * 1000 := Nat.mul_le_mul (by omega) (by omega)
              refine op_rep pins s σ H _ _ v u Q I rx ry ⟨p, k, vs, rfl, rfl, h1, by omega, by omega, by rw [sizeLine_eq]; omega, fun z hz => h.list r (h2.rep k.toNat) hz⟩
            · simp only [if_neg c] at h; exact h.elim
          | _ => exact h.elim
      | _ => exact h.elim
    | _ => exact h.elim
  | fdiv =>
    cases a with
    | int i =>
      cases b with
      | int j =>
        simp only [binR] at h
        by_cases c : 0 < j ∧ j < 1073741824
        · rw [if_pos c] at h
          simp only [RepD] at ha hb; subst ha hb; exact op_fdiv pins s σ H _ _ v u Q I rx ry ⟨_, _, rfl, rfl, c, h.val r rfl⟩
        · rw [if_neg c] at h; exact h.elim
      | _ => exact h.elim
    | _ => exact h.elim
  | mod =>
    cases a with
    | int i =>
      cases b with
      | int j =>
        simp only [binR] at h
        by_cases c : 0 < j
        · rw [if_pos c] at h
          simp only [RepD] at ha hb; subst ha hb; exact op_mod pins s σ H _ _ v u Q I rx ry ⟨_, _, rfl, rfl, c, h.val r rfl⟩
        · rw [if_neg c] at h; exact h.elim
      | _ => exact h.elim
    | _ => exact h.elim
  | pow =>
    cases a with
    | int i =>
      cases b with
      | int j =>
        simp only [binR] at h
        by_cases c : 0 ≤ i ∧ i < 100 ∧ 0 ≤ j ∧ j < 100
        · rw [if_pos c] at h
          simp only [RepD] at ha hb; subst ha hb; exact op_pow pins s σ H _ _ v u Q I rx ry ⟨_, _, rfl, rfl, ⟨c.2.2.1, by omega, by omega⟩, h.val r rfl⟩
        · rw [if_neg c] at h; exact h.elim
      | _ => exact h.elim
    | _ => exact h.elim
/-- a value's truth -/
theorem tru_of {as : List Addr} {L : LH} {H : Hp} {d : D} {v : V} {k : Bool} (r : Rp tab X.K ca as L H) (h : RepD tab X.K as H d v) (e : isTrue L d = some k) : TruV X.K v H k := by
  cases d with
  | non => cases e; simp only [RepD] at h; subst h; rfl
  | bl b => cases e; simp only [RepD] at h; subst h; rfl
  | int i => cases e; simp only [RepD] at h; subst h; simp [TruV, bne, BEq.beq, decide_not]
  | tup xs =>
    cases e
    simp only [RepD] at h
    obtain ⟨a, vs, rfl, h1, h2⟩ := h
    refine .inr (.inl ⟨vs, h1, ?_⟩)
    cases xs <;> (have := h2.length; cases vs <;> first | rfl | simp at this)
  | ref n =>
    simp only [isTrue] at e
    simp only [RepD] at h
    obtain ⟨a, ea, rfl⟩ := h
    cases e1 : L[n]? with
    | none => rw [e1] at e; cases e
    | some o =>
      rw [e1] at e
      cases o with
      | lst xs =>
        cases e
        obtain ⟨vs, h1, h2⟩ := r.lst e1 ea
        refine .inl ⟨vs, .of h1, ?_⟩
        cases xs <;> (have := h2.length; cases vs <;> first | rfl | simp at this)
      | dic xs =>
        cases e
        obtain ⟨vs, h1, h2, _⟩ := r.dic e1 ea
        refine .inr (.inr ⟨vs, h1, ?_⟩)
        cases xs <;> (have := h2.len; cases vs <;> first | rfl | simp at this)
      | ins c fs => cases e
  | _ => cases e
theorem atI_rep {as : List Addr} {H : Hp} {K : PySem.W.Frag} {xs : List D} {vs : List V} {i : Int} {d : D} (h : RepDs tab K as H xs vs) (e : atI xs i = some d) : ∃ v, L2.atI vs i = some v ∧ RepD tab K as H d v := by
  unfold atI at e
  unfold L2.atI L2.ixN
  have l := h.length
  by_cases c : 0 ≤ i
  · rw [if_pos c] at e
    obtain ⟨v, hv, q⟩ := h.get e
    have : i.toNat < vs.length := (List.getElem?_eq_some_iff.mp hv).1
    rw [if_pos c, if_pos (by omega)]
    exact ⟨v, hv, q⟩
  · rw [if_neg c] at e ⊢
    by_cases c2 : -(xs.length : Int) ≤ i
    · rw [if_pos c2] at e
      rw [if_pos (by omega)]
      obtain ⟨v, hv, q⟩ := h.get e
      refine ⟨v, ?_, q⟩
      show vs[(i + vs.length).toNat]? = some v
      rw [← l]; exact hv
    · rw [if_neg c2] at e; cases e
theorem ix_any (O : XO X) (T : TabOk tab) : IxR X (rd2 tab X.K ca (fun L a b => okD L (idxR L a b)) W) := by
  intro value slice pins s σ H x y v u Q I rx ry h hs
  obtain ⟨as, L, a, b, r, ha, hb, h⟩ := h
  have h : SO tab X.K ca (okD L (idxR L a b)) W as H (K1 tab X.K Q) := h
  cases e : idxR L a b with
  | none => rw [e] at h; exact h.elim
  | some d =>
    rw [e] at h
    have fin : ∀ z, RepD tab X.K as H d z → Q z H := fun z hz => h.val r hz
    cases a with
    | tup xs =>
      cases b with
      | int i =>
        simp only [RepD] at ha hb; subst hb
        obtain ⟨p, vs, rfl, h1, h2⟩ := ha
        obtain ⟨z, hz, q⟩ := atI_rep h2 e
        exact ix_tup value slice pins s σ H _ _ v u Q I rx ry ⟨p, vs, i, z, rfl, rfl, h1, hz, fin z q⟩ hs
      | _ => cases e
    | ref n =>
      simp only [RepD] at ha
      obtain ⟨p, ep, rfl⟩ := ha
      simp only [idxR] at e
      cases e1 : L[n]? with
      | none => rw [e1] at e; cases e
      | some o =>
        rw [e1] at e
        cases o with
        | lst xs =>
          cases b with
          | int i =>
            simp only [RepD] at hb; subst hb
            obtain ⟨vs, h1, h2⟩ := r.lst e1 ep
            obtain ⟨z, hz, q⟩ := atI_rep h2 e
            exact ix_list value slice pins s σ H _ _ v u Q I rx ry ⟨p, vs, i, z, rfl, rfl, .of h1, hz, fin z q⟩ hs
          | _ => cases e
        | dic kvs =>
          cases ek : keyOf b with
          | none => simp only [ek] at e; cases e
          | some k =>
            simp only [ek] at e
            obtain ⟨rfl, ok⟩ := keyOf_rep hb ek
            obtain ⟨ks, h1, h2, _⟩ := r.dic e1 ep
            cases (show v = Value.ref p from rx)
            have q := RepKs.val T ok h2
            rw [e] at q
            obtain ⟨z, hz, qz⟩ := q
            have g : DGet H p (kV (kyV tab k)) (some z) := .inl ⟨ks, _, .inl h1, rfl, hz.symm⟩
            obtain ⟨vs, hkv, dd⟩ := (show ObjOk X.prog X.w H s.heap p (.dK ks) from I.hok p _ h1).2.2
            have hu : X.A.units + 1 < cLine := by have := O.hu; omega
            exact PyProof.Rows.tail_any dd.typeIs PySem.F.slot_dict_getitem.lookup (d_getItem hu I g ry fun w' s' I' rw' => ⟨z, H, I', rw', fin z qz⟩) hs
        | ins c fs => cases e
    | _ => cases e
end
end Ev

end
section
set_option linter.all false
set_option maxRecDepth 100000
namespace Ev
open PySem PySem.Spec L2
section
variable {X : Cx} {tab : List Str} {ca : Nat → Addr} {W : XK}
/-! ### slices -/
theorem cut_from (xs : List V) {i : Int} (h : 0 ≤ i) : cutV xs (some i) none = xs.drop i.toNat := by
  unfold cutV
  obtain ⟨k, rfl⟩ := Int.eq_ofNat_of_zero_le h
  rw [HT.sIx_nat, HT.sIx_none]
  show (xs.drop (min k xs.length)).take (xs.length - min k xs.length) = xs.drop k
  rw [List.take_of_length_le (by rw [List.length_drop]; omega)]
  by_cases c : k ≤ xs.length
  · rw [Nat.min_eq_left c]
  · rw [Nat.min_eq_right (by omega), List.drop_of_length_le (Nat.le_refl _), List.drop_of_length_le (by omega)]
theorem cut_to (xs : List V) {i : Int} (h : 0 ≤ i) : cutV xs none (some i) = xs.take i.toNat := by
  unfold cutV
  obtain ⟨k, rfl⟩ := Int.eq_ofNat_of_zero_le h
  rw [HT.sIx_nat, HT.sIx_none]
  show (xs.drop 0).take (min k xs.length - 0) = xs.take k
  rw [List.drop_zero, Nat.sub_zero]
  by_cases c : k ≤ xs.length
  · rw [Nat.min_eq_left c]
  · rw [Nat.min_eq_right (by omega), List.take_of_length_le (Nat.le_refl _), List.take_of_length_le (by omega)]
def partsOf (fr : Bool) (i : Int) : Option Int × Option Int := if fr then (some i, none) else (none, some i)
def rdSl (tab : List Str) (K : PySem.W.Frag) (ca : Nat → Addr) (fr : Bool) (W : XK) : V → Option Int → Option Int → Hp → VK → Prop := fun x lo hi H Q => ∃ as L a i, Rp tab K ca as L H ∧ RepD tab K as H a x ∧ (lo, hi) = partsOf fr i ∧ SO tab K ca (sliR L fr a (.int i)) W as H (K1 tab K Q)
theorem sl_any (fr : Bool) : SlR X (rdSl tab X.K ca fr W) := by
  intro pins s σ H x v vl vu lo hi sl Q I rx hs pl pu h
  obtain ⟨as, L, a, i, r, ha, e, h⟩ := h
  simp only [sliR] at h
  by_cases c : 0 ≤ i ∧ i < 1000000000
  · rw [if_pos c] at h
    have e1 : lo = (partsOf fr i).1 := congrArg Prod.fst e
    have e2 : hi = (partsOf fr i).2 := congrArg Prod.snd e
    have cut : ∀ vs : List V, cutV vs lo hi = if fr then vs.drop i.toNat else vs.take i.toNat := by
      intro vs
      rw [e1, e2]
      cases fr with
      | true => exact cut_from vs c.1
      | false => exact cut_to vs c.1
    have reps : ∀ (xs : List D) (vs : List V) (H : Hp), RepDs tab X.K as H xs vs → RepDs tab X.K as H (if fr then xs.drop i.toNat else xs.take i.toNat) (cutV vs lo hi) := by
      intro xs vs H q
      rw [cut]
      cases fr with
      | true => exact q.drop _
      | false => exact q.take _
    cases a with
    | tup xs =>
      have ha0 := ha
      simp only [RepD] at ha
      obtain ⟨p, vs, rfl, h1, h2⟩ := ha
      refine sl_tupA pins s σ H _ v vl vu lo hi sl Q I rx hs pl pu ⟨p, vs, rfl, h1, fun whole => ?_, fun _ z hz => h.tup r (reps xs vs H h2) hz⟩
      have ew : cutV vs lo hi = vs := by
        unfold cutV
        rw [whole.1, whole.2, List.drop_zero, Nat.sub_zero, List.take_length]
      refine h.val r ?_
      simp only [RepD]
      refine ⟨p, vs, rfl, h1, ?_⟩
      have q := reps xs vs H h2
      rw [ew] at q
      exact q
    | ref n =>
      simp only [RepD] at ha
      obtain ⟨p, ep, rfl⟩ := ha
      cases e1 : L[n]? with
      | none => simp only [e1] at h; exact h.elim
      | some o =>
        simp only [e1] at h
        cases o with
        | lst xs =>
          obtain ⟨vs, h1, h2⟩ := r.lst e1 ep
          exact sl_list pins s σ H _ v vl vu lo hi sl Q I rx hs pl pu ⟨p, vs, rfl, .of h1, fun z hz => h.list r (reps xs vs H h2) hz⟩
        | _ => exact h.elim
    | _ => exact h.elim
  · rw [if_neg c] at h; exact h.elim
/-! ### attributes -/
theorem RepFs.val (T : TabOk tab) {K : PySem.W.Frag} {as : List Addr} {H : Hp} {f : Nat} (hf : f < tab.length) : ∀ {fs : List (Nat × D)} {gs : List (Str × V)}, RepFs tab K as H fs gs →
    match getK f fs with
    | some d => ∃ v, gs.lookup (tab.getD f ⟨#[]⟩) = some v ∧ RepD tab K as H d v
    | none => gs.lookup (tab.getD f ⟨#[]⟩) = none
  | [], gs, h => by rw [show gs = [] from h]; rfl
  | (c, d) :: fs, gs, h => by
    obtain ⟨x, xs, rfl, h0, h1, h2⟩ := h
    simp only [getK, List.lookup_cons, T.beq hf h0]
    by_cases e : f = c
    · subst e
      simp only [if_pos, BEq.rfl]
      exact ⟨x, rfl, h1⟩
    · rw [if_neg e, beq_eq_false_iff_ne.mpr e]
      exact RepFs.val T hf h2
theorem RepFs.len {K : PySem.W.Frag} {as : List Addr} {H : Hp} : ∀ {fs : List (Nat × D)} {gs : List (Str × V)}, RepFs tab K as H fs gs → gs.length = fs.length
  | [], gs, h => by rw [show gs = [] from h]; rfl
  | (c, d) :: fs, gs, h => by
    obtain ⟨x, xs, rfl, h0, h1, h2⟩ := h
    rw [List.length_cons, List.length_cons, RepFs.len h2]
theorem RepFs.put (T : TabOk tab) {K : PySem.W.Frag} {as : List Addr} {H : Hp} {f : Nat} (hf : f < tab.length) {d : D} {v : V} (hd : RepD tab K as H d v) : ∀ {fs : List (Nat × D)} {gs : List (Str × V)}, RepFs tab K as H fs gs → RepFs tab K as H (putK f d fs) (putF (tab.getD f ⟨#[]⟩) v gs)
  | [], gs, h => by rw [show gs = [] from h]; exact ⟨v, [], rfl, hf, hd, rfl⟩
  | (c, d') :: fs, gs, h => by
    obtain ⟨x, xs, rfl, h0, h1, h2⟩ := h
    simp only [putK, putF]
    by_cases e : c = f
    · subst e
      rw [if_pos rfl, if_pos rfl]
      exact ⟨v, xs, rfl, h0, hd, h2⟩
    · rw [if_neg e, if_neg fun z => e (T.inj h0 hf z)]
      exact ⟨x, _, rfl, h0, h1, RepFs.put T hf hd h2⟩
/-- what is known of the classes -/
structure ClsOk (tab : List Str) (K : PySem.W.Frag) (ca : Nat → Addr) (cfg : Cfg) : Prop where
  fld : ∀ c f, cfg.fld c f = true → f < tab.length ∧ Cls K (ca c) ∧ NoAttr K (ca c) (tab.getD f ⟨#[]⟩)
theorem fld_any (T : TabOk tab) {cfg : Cfg} (C : ClsOk tab X.K ca cfg) {as : List Addr} {L : LH} {H : Hp} {a d : D} {x : V} {f : Nat} (r : Rp tab X.K ca as L H) (ha : RepD tab X.K as H a x) (e : fldR cfg L a f = some d) :
    ∃ p C dx gs v, x = .ref p ∧ H p = some (.ins C dx gs) ∧ Cls X.K C ∧ NoAttr X.K C (tab.getD f ⟨#[]⟩) ∧ gs.lookup (tab.getD f ⟨#[]⟩) = some v ∧ RepD tab X.K as H d v := by
  cases a with
  | ref n =>
    simp only [RepD] at ha
    obtain ⟨p, ep, rfl⟩ := ha
    simp only [fldR] at e
    cases e1 : L[n]? with
    | none => rw [e1] at e; cases e
    | some o =>
      rw [e1] at e
      cases o with
      | ins c fs =>
        obtain ⟨dx, gs, h1, h2⟩ := r.ins e1 ep
        by_cases k : cfg.fld c f = true
        · simp only [if_pos k] at e
          obtain ⟨f1, f2, f3⟩ := C.fld c f k
          have q := RepFs.val T f1 h2
          rw [e] at q
          obtain ⟨v, q1, q2⟩ := q
          exact ⟨p, ca c, dx, gs, v, rfl, h1, f2, f3, q1, q2⟩
        · simp only [if_neg k] at e; cases e
      | _ => cases e
  | _ => cases e
theorem setF_any (T : TabOk tab) {cfg : Cfg} (C : ClsOk tab X.K ca cfg) {as : List Addr} {L L' : LH} {H : Hp} {a d : D} {x v : V} {f : Nat} (r : Rp tab X.K ca as L H) (ha : RepD tab X.K as H a x) (hd : RepD tab X.K as H d v) (e : setFR cfg L a f d = some L') :
    ∃ p C dx gs, x = .ref p ∧ H p = some (.ins C dx gs) ∧ Cls X.K C ∧ NoAttr X.K C (tab.getD f ⟨#[]⟩) ∧ gs.length < 1000 ∧ Ext as H as (upd H p (.ins C dx (putF (tab.getD f ⟨#[]⟩) v gs))) ∧ Rp tab X.K ca as L' (upd H p (.ins C dx (putF (tab.getD f ⟨#[]⟩) v gs))) := by
  cases a with
  | ref n =>
    simp only [RepD] at ha
    obtain ⟨p, ep, rfl⟩ := ha
    simp only [setFR] at e
    cases e1 : L[n]? with
    | none => rw [e1] at e; cases e
    | some o =>
      rw [e1] at e
      cases o with
      | ins c fs =>
        obtain ⟨dx, gs, h1, h2⟩ := r.ins e1 ep
        by_cases k : (cfg.fld c f && decide (fs.length < 100)) = true
        · simp only [if_pos k] at e
          cases e
          simp only [Bool.and_eq_true, decide_eq_true_eq] at k
          obtain ⟨f1, f2, f3⟩ := C.fld c f k.1
          have l := h2.len
          have x := ext_write (.ins (ca c) dx (putF (tab.getD f ⟨#[]⟩) v gs)) ep (H := H)
          refine ⟨p, ca c, dx, gs, rfl, h1, f2, f3, by omega, x, r.write ep ?_⟩
          exact ⟨dx, _, upd_same, RepFs.put T f1 (hd.ext r x) (h2.ext r x)⟩
        · simp only [if_neg k] at e; cases e
      | _ => cases e
  | _ => cases e
/-! ### o[i] = v -/
def rdSet (tab : List Str) (K : PySem.W.Frag) (ca : Nat → Addr) : TSet := fun o i v H Q => ∃ as L L' a b d, Rp tab K ca as L H ∧ RepD tab K as H a o ∧ RepD tab K as H b i ∧ RepD tab K as H d v ∧ setIR L a b d = some L' ∧ ∀ H', Ext as H as H' → Rp tab K ca as L' H' → Q H'
theorem putK_keys {κ : Type} [DecidableEq κ] (k : κ) (v : D) : ∀ l : List (κ × D), (l.map (·.1)).Nodup → ((putK k v l).map (·.1)).Nodup ∧ ∀ z, z ∈ (putK k v l).map (·.1) → z = k ∨ z ∈ l.map (·.1)
  | [], _ => ⟨by simp [putK], by simp [putK]⟩
  | (k', v') :: r, nd => by
    rw [List.map_cons, List.nodup_cons] at nd
    obtain ⟨i1, i2⟩ := putK_keys k v r nd.2
    simp only [putK]
    by_cases e : k' = k
    · subst e
      rw [if_pos rfl, List.map_cons, List.nodup_cons]
      exact ⟨nd, fun z hz => .inr hz⟩
    · rw [if_neg e, List.map_cons, List.nodup_cons]
      refine ⟨⟨fun m => ?_, i1⟩, fun z hz => ?_⟩
      · rcases i2 _ m with m | m
        · exact e m
        · exact nd.1 m
      · rcases List.mem_cons.mp hz with rfl | hz
        · exact .inr List.mem_cons_self
        · rcases i2 z hz with m | m
          · exact .inl m
          · exact .inr (List.mem_cons_of_mem _ m)
theorem RepKs.put {K : PySem.W.Frag} {as : List Addr} {H : Hp} {kvs : List (Ky × D)} {ks : List (Key × V)} {k : Ky} {d : D} {v : V} (h : RepKs tab K as H kvs ks) (T : TabOk tab) (ok : kyOk tab k) (hd : RepD tab K as H d v) (nd : (kvs.map (·.1)).Nodup) :
    RepKs tab K as H (putK k d kvs) (L2.putK ks (kyV tab k) v) := by
  unfold L2.putK
  rw [RepKs.keys T ok h]
  cases any : kvs.any fun kv => decide (kv.1 = k) with
  | true =>
    rw [if_pos rfl]
    exact RepKs.map T ok hd h nd any
  | false =>
    rw [if_neg Bool.false_ne_true, putK_there k d kvs any]
    exact h.append ok hd
theorem set_any (O : XO X) (T : TabOk tab) : PSet X (rdSet tab X.K ca) := by
  intro pins s σ H o i v ov iv u Q I ro ri rv h
  obtain ⟨as, L, L', a, b, d, r, ha, hb, hd, e, h⟩ := h
  cases a with
  | ref n =>
    simp only [RepD] at ha
    obtain ⟨p, ep, rfl⟩ := ha
    simp only [setIR] at e
    cases e1 : L[n]? with
    | none => rw [e1] at e; cases e
    | some ob =>
      rw [e1] at e
      cases ob with
      | lst xs =>
        obtain ⟨vs, h1, h2⟩ := r.lst e1 ep
        cases b with
        | int k =>
          simp only at e
          cases ej : ixN xs.length k with
          | none => rw [ej] at e; cases e
          | some j =>
            rw [ej] at e
            cases e
            simp only [RepD] at hb; subst hb
            have x := ext_write (.lst (vs.set j v)) ep (H := H)
            have l := h2.length
            refine set_list pins s σ H _ _ v ov iv u Q I ro ri rv ⟨p, vs, k, j, rfl, rfl, h1, by rw [← l]; exact ej, h _ x (r.write ep ⟨_, upd_same, ?_⟩)⟩
            exact (h2.ext r x).set j (hd.ext r x)
        | _ => cases e
      | dic kvs =>
        obtain ⟨ks, h1, h2, nd⟩ := r.dic e1 ep
        cases ek : keyOf b with
        | none => simp only [ek] at e; cases e
        | some k =>
          simp only [ek] at e
          by_cases c : kvs.length < most
          · rw [if_pos c] at e
            cases e
            obtain ⟨rfl, ok⟩ := keyOf_rep hb ek
            have x := ext_write (.dK (L2.putK ks (kyV tab k) v)) ep (H := H)
            have hu : X.A.units + 1 < cLine := by have := O.hu; omega
            cases (show ov = Value.ref p from ro)
            have l := h2.len
            have put : DPut H p (kV (kyV tab k)) v (upd H p (.dK (L2.putK ks (kyV tab k) v))) := .inl ⟨ks, _, h1, rfl, by rw [l, ← most_eq]; exact c, rfl⟩
            refine d_setItem hu I put ri rv fun s' I' => ⟨_, I', h _ x (r.write ep ⟨_, upd_same, ?_, (putK_keys k d kvs nd).1⟩)⟩
            exact (h2.ext r x).put T ok (hd.ext r x) nd
          · rw [if_neg c] at e; cases e
      | ins c fs => cases e
  | _ => cases e
end
end Ev

end
section
set_option linter.all false
set_option maxRecDepth 100000
namespace Ev
open PySem PySem.Spec L2
section
variable {X : Cx} {tab : List Str} {ca : Nat → Addr} {W : XK}
theorem repDs1 {K : PySem.W.Frag} {as : List Addr} {H : Hp} {d : D} {xs : List V} (h : RepDs tab K as H [d] xs) : ∃ x, xs = [x] ∧ RepD tab K as H d x := by
  obtain ⟨x, ys, rfl, h1, h2⟩ := h
  rw [show ys = [] from h2]
  exact ⟨x, rfl, h1⟩
theorem repDs2 {K : PySem.W.Frag} {as : List Addr} {H : Hp} {d e : D} {xs : List V} (h : RepDs tab K as H [d, e] xs) : ∃ x y, xs = [x, y] ∧ RepD tab K as H d x ∧ RepD tab K as H e y := by
  obtain ⟨x, ys, rfl, h1, h2⟩ := h
  obtain ⟨y, rfl, h3⟩ := repDs1 h2
  exact ⟨x, y, rfl, h1, h3⟩
theorem intsOf_eq : ∀ {xs : List D} {ns : List Int}, intsOf xs = some ns → xs = ns.map D.int
  | [], ns, e => by cases e; rfl
  | .int i :: r, ns, e => by
    simp only [intsOf] at e
    obtain ⟨m, h, rfl⟩ := Option.map_eq_some_iff.mp e
    rw [intsOf_eq h]; rfl
  | .non :: _, _, e => by cases e
  | .bl _ :: _, _, e => by cases e
  | .str _ :: _, _, e => by cases e
  | .txt _ :: _, _, e => by cases e
  | .tup _ :: _, _, e => by cases e
  | .ref _ :: _, _, e => by cases e
  | .scr _ :: _, _, e => by cases e
  | .fn _ :: _, _, e => by cases e
theorem repInts {K : PySem.W.Frag} {as : List Addr} {H : Hp} : ∀ {ns : List Int} {vs : List V}, RepDs tab K as H (ns.map D.int) vs → vs = ns.map V.int
  | [], vs, h => h
  | n :: r, vs, h => by
    obtain ⟨x, xs, rfl, h1, h2⟩ := h
    rw [show x = V.int n from h1, repInts h2]; rfl
theorem maxI_mem : ∀ (ns : List Int) (m : Int), maxI m ns ∈ m :: ns ∧ ∀ y ∈ m :: ns, y ≤ maxI m ns
  | [], m => ⟨by simp [maxI], by simp [maxI]⟩
  | i :: r, m => by
    simp only [maxI]
    obtain ⟨h1, h2⟩ := maxI_mem r (if i > m then i else m)
    have hc : i ≤ (if i > m then i else m) ∧ m ≤ (if i > m then i else m) ∧ ((if i > m then i else m) = i ∨ (if i > m then i else m) = m) := by
      split
      · exact ⟨by omega, by omega, .inl rfl⟩
      · exact ⟨by omega, by omega, .inr rfl⟩
    generalize (if i > m then i else m) = w at h1 h2 hc
    refine ⟨?_, fun y hy => ?_⟩
    · rcases List.mem_cons.mp h1 with e | e
      · rw [e]; rcases hc.2.2 with e | e <;> (rw [e]; simp)
      · exact List.mem_cons_of_mem _ (List.mem_cons_of_mem _ e)
    · have hm := h2 _ List.mem_cons_self
      rcases List.mem_cons.mp hy with e | hy
      · have := hc.2.1; omega
      · rcases List.mem_cons.mp hy with e | hy
        · have := hc.1; omega
        · exact h2 y (List.mem_cons_of_mem _ hy)
theorem insI_perm (i : Int) : ∀ l : List Int, (insI i l).Perm (i :: l)
  | [] => .refl _
  | j :: r => by
    simp only [insI]
    split
    · exact .refl _
    · exact ((insI_perm i r).cons j).trans (.swap i j r)
theorem sortI_perm : ∀ l : List Int, (sortI l).Perm l
  | [] => .refl _
  | i :: r => (insI_perm i _).trans ((sortI_perm r).cons i)
theorem insI_sorted (i : Int) : ∀ l : List Int, l.Pairwise (· ≤ ·) → (insI i l).Pairwise (· ≤ ·)
  | [], _ => by simp [insI]
  | j :: r, h => by
    rw [List.pairwise_cons] at h
    simp only [insI]
    split
    · rw [List.pairwise_cons, List.pairwise_cons]
      refine ⟨fun y hy => ?_, h.1, h.2⟩
      rcases List.mem_cons.mp hy with rfl | hy
      · assumption
      · have := h.1 y hy; omega
    · rw [List.pairwise_cons]
      refine ⟨fun y hy => ?_, insI_sorted i r h.2⟩
      rcases List.mem_cons.mp ((insI_perm i r).mem_iff.mp hy) with rfl | hy
      · omega
      · exact h.1 y hy
theorem sortI_sorted : ∀ l : List Int, (sortI l).Pairwise (· ≤ ·)
  | [] => .nil
  | i :: r => insI_sorted i _ (sortI_sorted r)
/-! ### repr -/
theorem int_shown (i : Int) : (Str.ofString (toString i)).length ≤ i.natAbs.log2 + 3 := by
  rw [ofString_length]
  have := PySem.int_text_length_le (a := i) (k := i.natAbs.log2 + 1) (by omega) (by omega)
  omega
theorem strOk_small {x : Str} (h : PyData.strOk x = true) : ∀ c ∈ x.cps.toList, c < 16 ^ 8 := fun c hc => by
  have q := (Array.all_eq_true'.mp h) c (by simpa using hc)
  simp at q
  omega
theorem tuple_shown (ts : List Str) : (tupleText ts).length ≤ 4 + piled ts := by
  unfold tupleText
  rw [strLen_append, strLen_append]
  have e1 : (("(" : String) : Str).length = 1 := by decide
  have e2 : (((if ts.length == 1 then ",)" else ")" : String)) : Str).length ≤ 2 := by split <;> decide
  have e3 : (Str.join ", " ts).length ≤ piled ts := by
    cases ts with
    | nil => decide
    | cons x r => have := join_length_add (x :: r) (by simp); omega
  omega
mutual
theorem D.shown_le (T : TabOk tab) {K : PySem.W.Frag} {as : List Addr} {H : Hp} : ∀ (d : D) (v : V), d.pure = true → RepD tab K as H d v → (d.py tab).shown.length ≤ d.rl
  | .non, _, _, _ => by simp only [D.py, PyData.shown, D.rl]; decide
  | .bl b, _, _, _ => by simp only [D.py, PyData.shown, D.rl]; cases b <;> decide
  | .int i, _, _, _ => by simp only [D.py, PyData.shown, D.rl]; exact int_shown i
  | .str c, v, _, h => by
    have h : c < tab.length ∧ v = .str (tab.getD c ⟨#[]⟩) := by simpa only [RepD] using h
    simp only [D.py, PyData.shown, D.rl]
    have := PySem.StrLaws.reprText_len _ (strOk_small (T.ok _ (T.mem h.1)))
    have := T.short _ (T.mem h.1)
    omega
  | .txt _, _, p, _ => by simp [D.pure] at p
  | .ref _, _, p, _ => by simp [D.pure] at p
  | .scr _, _, p, _ => by simp [D.pure] at p
  | .tup ds, v, p, h => by
    simp only [RepD] at h
    obtain ⟨a, vs, rfl, h1, h2⟩ := h
    simp only [D.py, PyData.shown, D.rl]
    have := D.showns_le T ds vs (by simpa [D.pure] using p) h2
    have := tuple_shown (PyData.shownAll (D.pys tab ds))
    omega
theorem D.showns_le (T : TabOk tab) {K : PySem.W.Frag} {as : List Addr} {H : Hp} : ∀ (ds : List D) (vs : List V), D.pures ds = true → RepDs tab K as H ds vs → piled (PyData.shownAll (D.pys tab ds)) ≤ D.rls ds
  | [], _, _, _ => by simp [D.pys, PyData.shownAll, piled]
  | d :: ds, vs, p, h => by
    obtain ⟨x, xs, rfl, h1, h2⟩ := h
    have p : d.pure = true ∧ D.pures ds = true := by simpa [D.pures] using p
    have := D.shown_le T d x p.1 h1
    have := D.showns_le T ds xs p.2 h2
    simp only [D.pys, PyData.shownAll, D.rls, piled_cons]
    omega
end
mutual
theorem D.py_show (tab : List Str) : ∀ d : D, d.ri = true → (d.py tab).showable = true
  | .non, _ => by simp [D.py, PyData.showable]
  | .bl _, _ => by simp [D.py, PyData.showable]
  | .int i, h => by simpa [D.py, PyData.showable, D.ri] using h
  | .str _, _ => by simp [D.py, PyData.showable]
  | .txt _, _ => by simp [D.py, PyData.showable]
  | .ref _, _ => by simp [D.py, PyData.showable]
  | .scr _, _ => by simp [D.py, PyData.showable]
  | .fn _, _ => by simp [D.py, PyData.showable]
  | .tup ds, h => by
    simp only [D.py, PyData.showable]
    exact D.pys_show tab ds (by simpa [D.ri] using h)
theorem D.pys_show (tab : List Str) : ∀ ds : List D, D.ris ds = true → PyData.showableAll (D.pys tab ds) = true
  | [], _ => by simp [D.pys, PyData.showableAll]
  | d :: ds, h => by
    have h : d.ri = true ∧ D.ris ds = true := by simpa [D.ris] using h
    simp only [D.pys, PyData.showableAll, Bool.and_eq_true]
    exact ⟨D.py_show tab d h.1, D.pys_show tab ds h.2⟩
end
mutual
theorem D.py_noDict (tab : List Str) : ∀ d : D, (d.py tab).hasDict = false
  | .non => by simp [D.py, PyData.hasDict]
  | .bl _ => by simp [D.py, PyData.hasDict]
  | .int i => by simp [D.py, PyData.hasDict]
  | .str _ => by simp [D.py, PyData.hasDict]
  | .txt _ => by simp [D.py, PyData.hasDict]
  | .ref _ => by simp [D.py, PyData.hasDict]
  | .scr _ => by simp [D.py, PyData.hasDict]
  | .fn _ => by simp [D.py, PyData.hasDict]
  | .tup ds => by
    simp only [D.py, PyData.hasDict]
    exact D.pys_noDict tab ds
theorem D.pys_noDict (tab : List Str) : ∀ ds : List D, PyData.hasDictAll (D.pys tab ds) = false
  | [] => by simp [D.pys, PyData.hasDictAll]
  | d :: ds => by
    simp only [D.pys, PyData.hasDictAll, Bool.or_eq_false_iff]
    exact ⟨D.py_noDict tab d, D.pys_noDict tab ds⟩
end
theorem repr_any (T : TabOk tab) (O : XO X) {pins : List (Addr × Obj)} {s : Shared} {σ : L2.St} {H : Hp} {x : V} {u : Value} {Q : VK} {as : List Addr} {L : LH} {d : D} (I : L2.Inv X pins σ H s) (rx : RelV x u) (r : Rp tab X.K ca as L H) (hd : RepD tab X.K as H d x)
    (c : (d.pure && d.ri && decide (d.dep ≤ 180) && decide (d.rl ≤ most)) = true) (q : Q (.str (d.py tab).shown) H) : wpAny (model X.prog X.w) X.A (call (.builtin "repr") [u]) (EP X pins σ Q) X.xe s := by
  simp only [Bool.and_eq_true, decide_eq_true_eq] at c
  obtain ⟨⟨⟨c1, c2⟩, c3⟩, c4⟩ := c
  have hz := D.shown_le T d x c1 hd
  rw [most_eq] at c4
  cases d with
  | non => simp only [RepD] at hd; subst hd; cases rx; exact PySem.P.repr_of_none ⟨.str _, H, I.tok _, ⟨_, rfl⟩, q⟩
  | bl b => simp only [RepD] at hd; subst hd; cases rx; exact PySem.P.repr_of_bool ⟨.str _, H, I.tok _, ⟨_, rfl⟩, q⟩
  | int i =>
    simp only [RepD] at hd; subst hd; obtain ⟨t, rfl⟩ := rx
    exact PySem.P.repr_of_int (by simpa [D.ri] using c2) ⟨.str _, H, I.tok _, ⟨_, rfl⟩, q⟩
  | str k =>
    have hd : k < tab.length ∧ x = .str (tab.getD k ⟨#[]⟩) := by simpa only [RepD] using hd
    obtain ⟨h1, rfl⟩ := hd; obtain ⟨t, rfl⟩ := rx
    exact PySem.P.repr_of_str ⟨.str _, H, I.tok _, ⟨_, rfl⟩, q⟩ (by simp only [D.py, PyData.shown] at hz; omega)
  | tup ds =>
    have dp := RepD.dp _ _ c1 hd
    simp only [RepD] at hd
    obtain ⟨a, vs, rfl, h1, h2⟩ := hd
    obtain ⟨bs, rd⟩ := Dp.reads I _ _ _ dp rx
    cases (show u = Value.ref a from rx)
    have dd := D.py_depth tab (.tup ds)
    have hu : X.A.units + ((D.py tab (.tup ds)).depth + 1) < cLine := by have := O.hu; omega
    refine PySem.repr_of_reads' rd (D.py_show tab _ c2) (PyData.noDict_hsm (D.py_noDict tab _)) O.gd hu (fun _ _ e => e) (fun h' u' tk hk => ?_) (by omega)
    exact ⟨.str _, H, I.kept hk, ⟨_, rfl⟩, q⟩
  | _ => simp [D.pure] at c1
end
end Ev

end
section
set_option linter.all false
set_option maxRecDepth 100000
namespace Ev
open PySem PySem.Spec L2
section
variable {X : Cx} {tab : List Str} {ca : Nat → Addr} {W : XK}
/-- the value by which a builtin's name is called -/
def bfV : Bf → Value
  | .len => .builtin "len" | .abs => .builtin "abs" | .int => .type "int" | .tuple => .type "tuple" | .list => .type "list"
  | .sum => .builtin "sum" | .max => .builtin "max" | .min => .builtin "min" | .sorted => .builtin "sorted" | .repr => .builtin "repr"
theorem lst_ref {K : PySem.W.Frag} {as : List Addr} {L : LH} {H : Hp} {n : Nat} {x : V} (r : Rp tab K ca as L H) (h : RepD tab K as H (.ref n) x) : ∃ a, as[n]? = some a ∧ x = .ref a := by simpa only [RepD] using h
theorem call_bf (T : TabOk tab) (O : XO X) (b : Bf) : CallR X (bfV b) (rds tab X.K ca (bfR tab b) W) := by
  intro pins s σ H xs us Q I rxs h
  obtain ⟨as, L, ds, r, hd, h⟩ := h
  cases b with
  | len =>
    simp only [bfR] at h
    split at h
    · obtain ⟨x, rfl, hx⟩ := repDs1 hd
      simp only [RepD] at hx
      obtain ⟨a, vs, rfl, h1, h2⟩ := hx
      refine call_len_seq pins s σ H _ us Q I rxs ⟨a, vs, rfl, .inr h1, ?_⟩
      rw [← h2.length]; exact h.val r rfl
    · obtain ⟨x, rfl, hx⟩ := repDs1 hd
      obtain ⟨a, ea, rfl⟩ := lst_ref r hx
      split at h
      · obtain ⟨vs, h1, h2⟩ := r.lst (by assumption) ea
        refine call_len_seq pins s σ H _ us Q I rxs ⟨a, vs, rfl, .inl (.of h1), ?_⟩
        rw [← h2.length]; exact h.val r rfl
      · obtain ⟨vs, h1, h2, _⟩ := r.dic (by assumption) ea
        refine call_lenD pins s σ H _ us Q I rxs ⟨a, vs, rfl, h1, ?_⟩
        rw [h2.len]; exact h.val r rfl
      · exact h.elim
    · exact h.elim
  | abs =>
    simp only [bfR] at h
    split at h
    · obtain ⟨x, rfl, hx⟩ := repDs1 hd
      simp only [RepD] at hx; subst hx
      exact call_abs pins s σ H _ us Q I rxs ⟨_, rfl, h.val r rfl⟩
    · exact h.elim
  | int =>
    simp only [bfR] at h
    split at h
    · obtain ⟨x, rfl, hx⟩ := repDs1 hd
      simp only [RepD] at hx; subst hx
      exact call_int1 pins s σ H _ us Q I rxs (.inl ⟨_, rfl, h.val r rfl⟩)
    · exact h.elim
  | tuple =>
    simp only [bfR] at h
    split at h
    · obtain ⟨x, rfl, hx⟩ := repDs1 hd
      have hx0 := hx
      simp only [RepD] at hx
      obtain ⟨a, vs, rfl, h1, h2⟩ := hx
      exact call_tuple_of pins s σ H _ us Q I rxs ⟨a, vs, rfl, .inr ⟨h1, h.val r hx0⟩⟩
    · obtain ⟨x, rfl, hx⟩ := repDs1 hd
      obtain ⟨a, ea, rfl⟩ := lst_ref r hx
      split at h
      · obtain ⟨vs, h1, h2⟩ := r.lst (by assumption) ea
        exact call_tuple_of pins s σ H _ us Q I rxs ⟨a, vs, rfl, .inl ⟨.of h1, fun l hl => h.tup r h2 hl⟩⟩
      · exact h.elim
    · exact h.elim
  | list =>
    simp only [bfR] at h
    split at h
    · obtain ⟨x, rfl, hx⟩ := repDs1 hd
      simp only [RepD] at hx
      obtain ⟨a, vs, rfl, h1, h2⟩ := hx
      exact call_list_of pins s σ H _ us Q I rxs ⟨a, vs, rfl, .inr h1, fun l hl => h.list r h2 hl⟩
    · obtain ⟨x, rfl, hx⟩ := repDs1 hd
      obtain ⟨a, ea, rfl⟩ := lst_ref r hx
      split at h
      · obtain ⟨vs, h1, h2⟩ := r.lst (by assumption) ea
        exact call_list_of pins s σ H _ us Q I rxs ⟨a, vs, rfl, .inl (.of h1), fun l hl => h.list r h2 hl⟩
      · obtain ⟨ks, h1, h2, _⟩ := r.dic (by assumption) ea
        refine call_list_dK O.calm pins s σ H _ us Q I rxs ⟨a, ks, rfl, h1, fun l hl => h.list r ?_ hl⟩
        have all : ∀ {kvs : List (Ky × D)} {ks : List (Key × V)}, RepKs tab X.K as H kvs ks → RepDs tab X.K as H (kvs.map fun kv => match kv.1 with | .i n => D.int n | .s c => D.str c) (ks.map fun kv => kV kv.1) := by
          intro kvs
          induction kvs with
          | nil => intro ks h; rw [show ks = [] from h]; exact .nil
          | cons p t ih =>
            intro ks h
            obtain ⟨k, d⟩ := p
            obtain ⟨y, ys, rfl, g0, g1, g2⟩ := h
            refine .cons ?_ (ih g2)
            cases k with
            | i n => exact rfl
            | s c => simp only [RepD]; exact ⟨g0, rfl⟩
        exact all h2
      · exact h.elim
    · exact h.elim
  | sum =>
    simp only [bfR] at h
    split at h
    · obtain ⟨x, rfl, hx⟩ := repDs1 hd
      obtain ⟨a, ea, rfl⟩ := lst_ref r hx
      split at h
      · obtain ⟨vs, h1, h2⟩ := r.lst (by assumption) ea
        split at h
        · rename_i e
          rw [intsOf_eq e] at h2
          rw [repInts h2] at h1
          exact cr_sum O.calm pins s σ H _ us Q I rxs ⟨a, _, rfl, .of h1, h.val r rfl⟩
        · exact h.elim
      · exact h.elim
    · exact h.elim
  | max =>
    simp only [bfR] at h
    split at h
    · obtain ⟨x, y, rfl, hx, hy⟩ := repDs2 hd
      simp only [RepD] at hx hy; subst hx hy
      exact call_max2 O.calm pins s σ H _ us Q I rxs ⟨_, _, rfl, h.val r rfl⟩
    · obtain ⟨x, rfl, hx⟩ := repDs1 hd
      obtain ⟨a, ea, rfl⟩ := lst_ref r hx
      split at h
      · obtain ⟨vs, h1, h2⟩ := r.lst (by assumption) ea
        split at h
        · rename_i m ns e
          rw [intsOf_eq e] at h2
          rw [repInts h2] at h1
          refine cr_max O.calm pins s σ H _ us Q I rxs ⟨a, _, rfl, .of h1, by simp, fun w hw hle => ?_⟩
          obtain ⟨g1, g2⟩ := maxI_mem ns m
          have e : w = maxI m ns := Int.le_antisymm (g2 w hw) (hle _ g1)
          rw [e]; exact h.val r rfl
        · exact h.elim
      · exact h.elim
    · exact h.elim
  | min =>
    simp only [bfR] at h
    split at h
    · obtain ⟨x, y, rfl, hx, hy⟩ := repDs2 hd
      simp only [RepD] at hx hy; subst hx hy
      exact call_min2 O.calm pins s σ H _ us Q I rxs ⟨_, _, rfl, h.val r rfl⟩
    · exact h.elim
  | sorted =>
    simp only [bfR] at h
    split at h
    · obtain ⟨x, rfl, hx⟩ := repDs1 hd
      obtain ⟨a, ea, rfl⟩ := lst_ref r hx
      split at h
      · obtain ⟨vs, h1, h2⟩ := r.lst (by assumption) ea
        split at h
        · rename_i ns e
          rw [intsOf_eq e] at h2
          rw [repInts h2] at h1
          split at h
          · refine cr_sorted pins s σ H _ us Q I rxs ⟨a, ns, rfl, .of h1, by assumption, fun ns' p hp hs hn => ?_⟩
            have e : ns' = sortI ns := PySem.W.ksm_same (hp.trans (sortI_perm ns).symm) hs (sortI_sorted ns)
            rw [e]
            exact h.list r (RepDs.ints _) hn
          · exact h.elim
        · exact h.elim
      · exact h.elim
    · exact h.elim
  | repr =>
    simp only [bfR] at h
    split at h
    · obtain ⟨x, rfl, hx⟩ := repDs1 hd
      split at h
      · rename_i c
        cases rxs with
        | cons rx t =>
          cases t
          exact repr_any T O I rx r hx c (h.val r rfl)
      · exact h.elim
    · exact h.elim
/-! ### methods -/
def bmId : Bm → String
  | .append => "list.append" | .count => "list.count" | .index => "list.index" | .get => "dict.get"
def bmTy : Bm → String
  | .get => "dict" | _ => "list"
def rdm (tab : List Str) (K : PySem.W.Frag) (ca : Nat → Addr) (m : Bm) (W : XK) : V → List V → Hp → VK → Prop := fun x xs H Q => ∃ as L a ds, Rp tab K ca as L H ∧ RepD tab K as H a x ∧ RepDs tab K as H ds xs ∧ SO tab K ca (bmR m L a ds) W as H (K1 tab K Q)
theorem findIdx_least {α : Type} (p : α → Bool) : ∀ {l : List α} {j : Nat}, l.findIdx? p = some j → (∃ z, l[j]? = some z ∧ p z = true) ∧ ∀ (m : Nat) (z : α), m < j → l[m]? = some z → p z = false
  | l, j, e => by
    obtain ⟨h, h1, h2⟩ := List.findIdx?_eq_some_iff_getElem.mp e
    refine ⟨⟨l[j], List.getElem?_eq_getElem h, h1⟩, fun m z hm hz => ?_⟩
    obtain ⟨hl, rfl⟩ := List.getElem?_eq_some_iff.mp hz
    simpa using h2 m hm
theorem RepDs.pysGet {K : PySem.W.Frag} {as : List Addr} {H : Hp} : ∀ {ds : List D} {j : Nat} {d : D}, ds[j]? = some d → (D.pys tab ds)[j]? = some (d.py tab)
  | [], _, _, e => by simp at e
  | d :: ds, 0, _, e => by simp at e; subst e; simp [D.pys]
  | d :: ds, j + 1, _, e => by simp only [D.pys]; simpa using RepDs.pysGet (K := K) (as := as) (H := H) (ds := ds) (by simpa using e)
theorem RepDs.pysGet' : ∀ {ds : List D} {j : Nat} {z : PyData}, (D.pys tab ds)[j]? = some z → ∃ d, ds[j]? = some d ∧ z = d.py tab
  | [], _, _, e => by simp [D.pys] at e
  | d :: ds, 0, _, e => by simp [D.pys] at e; exact ⟨d, rfl, e.symm⟩
  | d :: ds, j + 1, _, e => by
    simp only [D.pys] at e
    simpa using RepDs.pysGet' (ds := ds) (by simpa using e)
theorem pures_get : ∀ {ds : List D} {j : Nat} {d : D}, D.pures ds = true → ds[j]? = some d → d.pure = true
  | [], _, _, _, e => by simp at e
  | d :: ds, 0, _, p, e => by simp at e; subst e; simp [D.pures] at p; exact p.1
  | d :: ds, j + 1, _, p, e => by simp [D.pures] at p; exact pures_get (ds := ds) p.2 (by simpa using e)
theorem call_bm (T : TabOk tab) (O : XO X) (m : Bm) : MtR X (bmId m) (rdm tab X.K ca m W) := by
  intro pins s σ H x xs v us Q I rx rxs h
  obtain ⟨as, L, a, ds, r, ha, hd, h⟩ := h
  simp only [bmR] at h
  split at h
  · obtain ⟨p, ep, rfl⟩ := lst_ref r ha
    split at h
    · rename_i n zs e1
      obtain ⟨vs, h1, h2⟩ := r.lst e1 ep
      cases m with
      | append =>
        simp only at h
        split at h
        · obtain ⟨y, rfl, hy⟩ := repDs1 hd
          split at h
          · have ex := ext_write (.lst (vs ++ [y])) ep (H := H)
            refine mt_append pins s σ H _ _ v us Q I rx rxs ⟨p, vs, y, rfl, rfl, h1, by rw [← h2.length, ← most_eq]; assumption, ?_⟩
            exact h as _ ex (r.write ep ⟨_, upd_same, (h2.ext r ex).append (.cons (hy.ext r ex) .nil)⟩) _ rfl
          · exact h.elim
        · exact h.elim
      | count =>
        simp only at h
        split at h
        · rename_i z
          obtain ⟨y, rfl, hy⟩ := repDs1 hd
          split at h
          · rename_i c
            simp only [Bool.and_eq_true, decide_eq_true_eq] at c
            cases rxs with
            | cons ry rt =>
              rename_i uy ut
              cases rt
              cases (show v = Value.ref p from rx)
              obtain ⟨bs, r1⟩ := Dp.reads I _ _ _ (RepD.dp z y c.1.1 hy) ry
              obtain ⟨its, rv, ⟨⟨cls, dd, data, sls⟩, n', ho, hc, hdn, hdt⟩, hlen⟩ := I.list (.of h1)
              simp only at hc hdt
              subst hc hdt
              obtain ⟨cs, h4⟩ := Dp.readsAll I _ _ its (RepDs.dp zs vs c.1.2 h2) rv
              have hl := D.pys_lay T zs vs c.1.2 h2
              have d1 := D.pys_depth tab zs
              have hu : X.A.units + 1 + min (PyData.depthAll (D.pys tab zs)) (z.py tab).depth < cLine := by
                have := O.hu
                have := Nat.min_le_left (PyData.depthAll (D.pys tab zs)) (z.py tab).depth
                omega
              refine call_meets PySem.F.slot_list_count ⟨_, ho, rfl⟩ PySem.F.entry_list_count (PySem.F.args_list_count_2 _ _)
                (SeqAt.list_countAt p its.toArray n' dd sls uy (fun y => PyData.eqv (SeqAt.readOf s.heap y) (z.py tab))) ⟨ho, SeqAt.items_eqAt (by simpa using h4) r1 hl (D.py_lay T z y c.1.1 hy) hu, ?_⟩
              have ec : (its.toArray.toList.countP fun y => PyData.eqv (SeqAt.readOf s.heap y) (z.py tab)) = zs.countP fun y => y.eqv z := by
                have e2 := SeqAt.readsAll_map _ _ _ hl h4
                have e3 : (its.countP fun y => PyData.eqv (SeqAt.readOf s.heap y) (z.py tab)) = (D.pys tab zs).countP fun q => PyData.eqv q (z.py tab) := by
                  rw [← e2, List.countP_map]; rfl
                show (its.countP _) = _
                rw [e3]
                have all : ∀ {zs : List D} {vs : List V}, D.pures zs = true → RepDs tab X.K as H zs vs → ((D.pys tab zs).countP fun q => PyData.eqv q (z.py tab)) = zs.countP fun y => y.eqv z := by
                  intro zs
                  induction zs with
                  | nil => intro vs _ _; rfl
                  | cons w ws ih =>
                    intro vs p hq
                    obtain ⟨k, ks, rfl, g1, g2⟩ := hq
                    have p : w.pure = true ∧ D.pures ws = true := by simpa [D.pures] using p
                    simp only [D.pys, List.countP_cons]
                    rw [ih p.2 g2, D.eqv_py T w z k y p.1 c.1.1 g1 hy]
                exact all c.1.2 h2
              refine ⟨.int _, H, I.tok _, ⟨s.toks, rfl⟩, ?_⟩
              rw [ec]; exact h.val r rfl
          · exact h.elim
        · exact h.elim
      | index =>
        simp only at h
        split at h
        · rename_i z
          obtain ⟨y, rfl, hy⟩ := repDs1 hd
          split at h
          · rename_i c
            simp only [Bool.and_eq_true, decide_eq_true_eq] at c
            split at h
            · rename_i j ej
              obtain ⟨⟨w, hw, hwz⟩, hno⟩ := findIdx_least _ ej
              have sl : SeqAt.shaped (.list (D.pys tab zs)) = true := by
                have d1 := D.pys_depth tab zs
                have d2 : (PyData.list (D.pys tab zs)).depth ≤ 64 := by simp only [PyData.depth]; omega
                have l1 : (PyData.list (D.pys tab zs)).canLay0 = true := by simp only [PyData.canLay0]; exact D.pys_lay T zs vs c.1.1.2 h2
                exact Bool.and_eq_true_iff.mpr ⟨l1, decide_eq_true d2⟩
              have sd : SeqAt.shaped (z.py tab) = true := by
                unfold SeqAt.shaped
                simp only [Bool.and_eq_true, decide_eq_true_eq]
                have := D.py_depth tab z
                exact ⟨D.py_lay T z y c.1.1.1 hy, Nat.le_trans this (by omega)⟩
              obtain ⟨k, hk, hwk⟩ := h2.get hw
              refine mt_indexD (by have := O.hu; omega) pins s σ H _ _ v us Q I rx rxs ⟨p, y, z.py tab, D.pys tab zs, j, w.py tab, rfl, rfl, .lst (.of h1) (RepDs.dp zs vs c.1.1.2 h2), RepD.dp z y c.1.1.1 hy, sl, sd, RepDs.pysGet (K := X.K) (as := as) (H := H) hw, ?_, fun m z' hm hz' => ?_, h.val r rfl⟩
              · rw [D.eqv_py T w z k y (pures_get c.1.1.2 hw) c.1.1.1 hwk hy]; exact hwz
              · obtain ⟨d', hd', rfl⟩ := RepDs.pysGet' hz'
                obtain ⟨k', _, hk'⟩ := h2.get hd'
                rw [D.eqv_py T d' z k' y (pures_get c.1.1.2 hd') c.1.1.1 hk' hy]
                exact hno m d' hm hd'
            · exact h.elim
          · exact h.elim
        · exact h.elim
      | get => exact h.elim
    · rename_i n kvs e1
      obtain ⟨ks, h1, h2, _⟩ := r.dic e1 ep
      cases m with
      | get =>
        simp only at h
        split at h
        · rename_i kd dd
          obtain ⟨x1, x2, rfl, hx1, hx2⟩ := repDs2 hd
          split at h
          · rename_i k ek
            obtain ⟨rfl, ok⟩ := keyOf_rep hx1 ek
            cases (show v = Value.ref p from rx)
            cases rxs with
            | cons r1 t =>
              cases t with
              | cons r2 t =>
                cases t
                have g : DGet H p (kV (kyV tab k)) (valV ks (kyV tab k)) := .inl ⟨ks, _, .inl h1, rfl, rfl⟩
                refine d_get2 (by have := O.hu; omega) I g r1 r2 fun w' s' I' rw' => ⟨_, H, I', rw', ?_⟩
                have q := RepKs.val T ok h2
                cases eg : getK k kvs with
                | none => rw [eg] at q h; simp only at q; rw [q]; exact h.val r hx2
                | some d => rw [eg] at q h; simp only at q; obtain ⟨w, q, q2⟩ := q; rw [q]; exact h.val r q2
          · exact h.elim
        · exact h.elim
      | _ => exact h.elim
    · exact h.elim
  · exact h.elim
/-- what the method's type wants -/
theorem bm_ty {as : List Addr} {L : LH} {H : Hp} {a : D} {x : V} {n : Nat} {o : LO} {m : Bm} (r : Rp tab X.K ca as L H) (ha : RepD tab X.K as H (.ref n) x) (e : L[n]? = some o) (k : match m, o with | .get, .dic _ => True | .get, _ => False | _, .lst _ => True | _, _ => False) : tyV X.K (bmTy m) x H := by
  obtain ⟨p, ep, rfl⟩ := lst_ref r ha
  cases o with
  | lst xs =>
    obtain ⟨vs, h1, _⟩ := r.lst e ep
    cases m <;> first | exact k.elim | exact .inl ⟨rfl, vs, .of h1⟩
  | dic xs =>
    obtain ⟨vs, h1, _⟩ := r.dic e ep
    cases m <;> first | exact k.elim | exact .inr (.inr (.inl ⟨rfl, .inl ⟨vs, h1⟩⟩))
  | ins c fs => cases m <;> exact k.elim
/-! ### isinstance -/
def tyName : Ty → String
  | .int => "int" | .bool => "bool" | .str => "str" | .tuple => "tuple"
theorem kit_isi : ∀ (y : String) (t : Ty), y ∈ ["NoneType", "bool", "int", "str", "tuple", "list", "dict"] → kitB y (tyName t) = some (match t with | .int => y == "int" || y == "bool" | .bool => y == "bool" | .str => y == "str" | .tuple => y == "tuple") := by
  intro y t hy
  simp only [List.mem_cons, List.not_mem_nil, or_false] at hy
  rcases hy with rfl | rfl | rfl | rfl | rfl | rfl | rfl <;> cases t <;> decide +kernel
theorem isi_any {as : List Addr} {L : LH} {H : Hp} {a : D} {x : V} {t : Ty} {k : Bool} (r : Rp tab X.K ca as L H) (ha : RepD tab X.K as H a x) (e : isiR L a t = some k) {Q : VK} (q : Q (.bl k) H) : rIsi X.K [x, .ty (tyName t)] H Q := by
  unfold isiR at e
  have ty : ∀ y, tyOf L a = some y → y ∈ ["NoneType", "bool", "int", "str", "tuple", "list", "dict"] ∧ TyX X.K H x (.type y) := by
    intro y ey
    cases a with
    | non => cases ey; simp only [RepD] at ha; subst ha; exact ⟨by simp, .base .non⟩
    | bl b => cases ey; simp only [RepD] at ha; subst ha; exact ⟨by simp, .base (.bl b)⟩
    | int b => cases ey; simp only [RepD] at ha; subst ha; exact ⟨by simp, .base (.int b)⟩
    | str b => cases ey; simp only [RepD] at ha; obtain ⟨_, rfl⟩ := ha; exact ⟨by simp, .base (.str _)⟩
    | txt b => cases ey; simp only [RepD] at ha; subst ha; exact ⟨by simp, .base (.str b)⟩
    | tup xs =>
      cases ey
      simp only [RepD] at ha
      obtain ⟨p, vs, rfl, h1, _⟩ := ha
      refine ⟨by simp, ?_⟩
      rcases h1 with (h1 | ⟨o, h1⟩) | ⟨o, its, n, h1, h2, _⟩
      · exact .base (.tup h1)
      · exact .fTuple h1
      · exact .kTuple h1 h2
    | ref n =>
      obtain ⟨p, ep, rfl⟩ := lst_ref r ha
      simp only [tyOf] at ey
      split at ey
      · cases ey
        obtain ⟨vs, h1, _⟩ := r.lst (by assumption) ep
        exact ⟨by simp, .base (.lst h1)⟩
      · cases ey
        obtain ⟨vs, h1, _⟩ := r.dic (by assumption) ep
        exact ⟨by simp, .base (.dK h1)⟩
      · cases ey
    | scr ns => cases ey
    | fn c => cases ey
  cases ey : tyOf L a with
  | none => rw [ey] at e; cases e
  | some y =>
    rw [ey] at e
    obtain ⟨m, tx⟩ := ty y ey
    refine ⟨x, .ty (tyName t), .type y, .type (tyName t), k, rfl, .ty _, tx, kit_ty ?_, q⟩
    rw [kit_isi y t m]
    cases t <;> exact e
end
end Ev

end
section
set_option linter.all false
set_option maxRecDepth 100000
/-! Ev: whether a text is the one that is run. -/
namespace Ev
open PySem PySem.Spec L2

/-- the names of the module -/
structure Nm where
  fn : Nat → Option Str
  cn : Nat → Option Str
  gn : Nat → Option Str
def tx (tab : List Str) (c : Nat) : Str := tab.getD c ⟨#[]⟩
def vis (sc : Scope) (x : Str) : Bool := match sc.names.lookup x with
  | some .local => true
  | some .cell => true
  | some .free => true
  | _ => false
def glb (sc : Scope) (x : Str) : Bool := match sc.names.lookup x with
  | some .globalImplicit => true
  | _ => false
def own (sc : Scope) (x : Str) : Bool := match sc.names.lookup x with
  | some .local => true
  | _ => false
def okName (x : Str) : Bool := !(x == ("__debug__" : Str)) && !(x == ("__classdict__" : Str))
def isOp : Op → Operator → Bool
  | .add, .Add => true | .sub, .Sub => true | .mul, .Mult => true | .fdiv, .FloorDiv => true | .mod, .Mod => true | .pow, .Pow => true
  | _, _ => false
def isCm : Cm → CmpOp → Bool
  | .eq, .Eq => true | .ne, .NotEq => true | .lt, .Lt => true | .le, .LtE => true | .gt, .Gt => true | .ge, .GtE => true | .isin, .In => true | .notin, .NotIn => true
  | _, _ => false
def bfName : Bf → Str
  | .len => "len" | .abs => "abs" | .int => "int" | .tuple => "tuple" | .list => "list" | .sum => "sum" | .max => "max" | .min => "min" | .sorted => "sorted" | .repr => "repr"
def bmName : Bm → Str
  | .append => "append" | .count => "count" | .index => "index" | .get => "get"
def tyStr : Ty → Str
  | .int => "int" | .bool => "bool" | .str => "str" | .tuple => "tuple"
def isTup : Expr → Bool
  | .Tuple _ _ _ => true
  | _ => false
def noStar : Expr → Bool
  | .Starred _ _ => false
  | _ => true
/-- an index that is no slice, a thing that is no set display, a call that isn't super() -/
def tame : Expr → Bool
  | .Slice _ _ _ _ => false
  | .Set _ _ _ => false
  | .Starred _ _ => false
  | .Call (.Name x _) [] [] _ => !(x == ("super" : Str))
  | _ => true
/-- the rest of a row of operands -/
def restB (op : BoolOp) (pos : Pos) (y : Expr) (r : List Expr) : Expr := match r with
  | [] => y
  | _ => .BoolOp op (y :: r) pos
mutual
/-- the slots that a target stores to -/
def slots : Tg → List Nat
  | .name i => [i]
  | .fld _ _ => []
  | .tup ts => slotss ts
def slotss : List Tg → List Nat
  | [] => []
  | t :: ts => slots t ++ slotss ts
end
/-- what a source's arguments are -/
def srcArgs (sc : Scope) (s : Src) (tg it : Expr) : Option (List Expr) := match s with
  | .seq => some [it]
  | .rng1 => match it with
    | .Call (.Name x _) [a] [] _ => if (x == ("range" : Str)) && glb sc x then some [a] else none
    | _ => none
  | .rng2 => match it with
    | .Call (.Name x _) [a, b] [] _ => if (x == ("range" : Str)) && glb sc x then some [a, b] else none
    | _ => none
  | .zip => match it with
    | .Call (.Name x _) [a, b] [] _ => if (x == ("zip" : Str)) && glb sc x && isTup tg then some [a, b] else none
    | _ => none
  | .enm => match it with
    | .Call (.Name x _) [a] [] _ => if (x == ("enumerate" : Str)) && glb sc x && isTup tg then some [a] else none
    | _ => none
section
variable (nm : Nm) (tab N : List Str)
mutual
def chkT (sc : Scope) (f : Str → Bool) : Tg → Expr → Bool
  | .name i, pe => match pe with
    | .Name x _ => decide (N[i]? = some x) && (own sc x || (f x && vis sc x && (match sc.names.lookup x with | some .free => false | _ => true)))
    | _ => false
  | .fld i g, pe => match pe with
    | .Attribute (.Name x _) y _ => decide (N[i]? = some x) && vis sc x && okName x && decide (g < tab.length) && decide (y = tx tab g)
    | _ => false
  | .tup ts, pe => match pe with
    | .Tuple es _ _ => chkTs sc f ts es
    | _ => false
def chkTs (sc : Scope) (f : Str → Bool) : List Tg → List Expr → Bool
  | [], es => es.isEmpty
  | t :: ts, es => match es with
    | [] => false
    | e :: r => noStar e && chkT sc f t e && chkTs sc f ts r
end
def chkKs : List Nat → List (Option Expr) → Bool
  | [], ks => ks.isEmpty
  | c :: cs, ks => match ks with
    | some (.Constant (.str x) _ _) :: r => decide (c < tab.length) && decide (x = tx tab c) && !(cs.contains c) && chkKs cs r
    | _ => false
/-- the block of a comprehension -/
def ownOf (own : List Nat) : List (Str × Nat) := own.map fun i => (N.getD i ⟨#[]⟩, i)
def fnOf (scope : Scope) (x : Str) : Bool := scope.names.lookup x == some .cell
mutual
def chkE (sc : Scope) : E → Expr → Bool
  | .var i, pe => match pe with
    | .Name x _ => decide (N[i]? = some x) && vis sc x && okName x
    | _ => false
  | .non, pe => match pe with
    | .Constant .none _ _ => true
    | _ => false
  | .bl b, pe => match pe with
    | .Constant (.bool b') _ _ => b == b'
    | _ => false
  | .int i, pe => match pe with
    | .Constant (.int j) _ _ => decide (i = j)
    | _ => false
  | .str c, pe => match pe with
    | .Constant (.str x) _ _ => decide (c < tab.length) && decide (x = tx tab c)
    | _ => false
  | .glo g, pe => match pe with
    | .Name x _ => glb sc x && decide (nm.gn g = some x) && okName x
    | _ => false
  | .tup es, pe => match pe with
    | .Tuple xs _ _ => decide (es.length ≤ 1000) && chkEs sc es xs
    | _ => false
  | .lst es, pe => match pe with
    | .List xs _ => decide (es.length ≤ 1000) && chkEs sc es xs
    | _ => false
  | .dic ks es, pe => match pe with
    | .Dict keys vals _ => chkKs tab ks keys && chkEs sc es vals && decide (keys.length = vals.length) && decide (ks.length = es.length) && decide (ks.length ≤ 15)
    | _ => false
  | .bin o a b, pe => match pe with
    | .BinOp x op y _ => isOp o op && chkE sc a x && chkE sc b y
    | _ => false
  | .neg a, pe => match pe with
    | .UnaryOp .USub x _ => chkE sc a x
    | _ => false
  | .cmp o a b, pe => match pe with
    | .Compare x [op] [y] _ => isCm o op && tame y && chkE sc a x && chkE sc b y
    | _ => false
  | .chn o o' a b c, pe => match pe with
    | .Compare x [op, op'] [y, z] _ => isCm o op && isCm o' op' && tame z && chkE sc a x && chkE sc b y && chkE sc c z
    | _ => false
  | .isn ng a, pe => match pe with
    | .Compare x [.Is] [.Constant .none _ _] _ => !ng && chkE sc a x
    | .Compare x [.IsNot] [.Constant .none _ _] _ => ng && chkE sc a x
    | _ => false
  | .isb ng k a, pe => match pe with
    | .Compare x [.Is] [.Constant (.bool b) _ _] _ => !ng && (b == k) && chkE sc a x
    | .Compare x [.IsNot] [.Constant (.bool b) _ _] _ => ng && (b == k) && chkE sc a x
    | _ => false
  | .and a b, pe => match pe with
    | .BoolOp .And (x :: y :: r) pos => chkE sc a x && chkE sc b (restB .And pos y r)
    | _ => false
  | .or a b, pe => match pe with
    | .BoolOp .Or (x :: y :: r) pos => chkE sc a x && chkE sc b (restB .Or pos y r)
    | _ => false
  | .not a, pe => match pe with
    | .UnaryOp .Not x _ => chkE sc a x
    | _ => false
  | .ite c a b, pe => match pe with
    | .IfExp z x y _ => chkE sc c z && chkE sc a x && chkE sc b y
    | _ => false
  | .fld a f, pe => match pe with
    | .Attribute x y _ => decide (f < tab.length) && decide (y = tx tab f) && tame x && chkE sc a x
    | _ => false
  | .idx a b, pe => match pe with
    | .Subscript x y _ => tame y && chkE sc a x && chkE sc b y
    | _ => false
  | .slf a b, pe => match pe with
    | .Subscript x (.Slice (some y) none none _) _ => chkE sc a x && chkE sc b y
    | _ => false
  | .slt a b, pe => match pe with
    | .Subscript x (.Slice none (some y) none _) _ => chkE sc a x && chkE sc b y
    | _ => false
  | .rev a, pe => match pe with
    | .Subscript x (.Slice none none (some (.UnaryOp .USub (.Constant (.int 1) _ _) _)) _) _ => chkE sc a x
    | _ => false
  | .call f es, pe => match pe with
    | .Call (.Name x _) args [] _ => glb sc x && decide (nm.fn f = some x) && okName x && chkEs sc es args
    | _ => false
  | .callv i es, pe => match pe with
    | .Call (.Name x _) args [] _ => decide (N[i]? = some x) && vis sc x && okName x && chkEs sc es args
    | _ => false
  | .mk c es, pe => match pe with
    | .Call (.Name x _) args [] _ => glb sc x && decide (nm.cn c = some x) && okName x && chkEs sc es args
    | _ => false
  | .mth o m es, pe => match pe with
    | .Call (.Attribute x y ap) args [] pos => decide (m < tab.length) && decide (y = tx tab m) && tame x && (ap.endLine == pos.line) && decide (args.length < 30) && chkE sc o x && chkEs sc es args
    | _ => false
  | .bm b o es, pe => match pe with
    | .Call (.Attribute x y ap) args [] pos => decide (y = bmName b) && tame x && (ap.endLine == pos.line) && decide (args.length < 30) && !args.isEmpty && chkE sc o x && chkEs sc es args
    | _ => false
  | .bf b es, pe => match pe with
    | .Call (.Name x _) args [] _ => glb sc x && decide (x = bfName b) && !args.isEmpty && chkEs sc es args
    | _ => false
  | .isi a t, pe => match pe with
    | .Call (.Name x _) [p, .Name y _] [] _ => glb sc x && (x == ("isinstance" : Str)) && glb sc y && decide (y = tyStr t) && noStar p && chkE sc a p
    | _ => false
  | .lc tg ow src es cond e, pe => match pe with
    | .ListComp elt [⟨t, it, ifs, 0⟩] scope _ => blkC N sc scope (ownOf N ow) && (slots tg).all (fun i => ow.contains i) && tame it && chkT tab N (relS scope sc) (fnOf scope) tg t && (match srcArgs sc src t it with | some xs => chkEs sc es xs | none => false) && decide (cond.length ≤ 1) && chkEs (relS scope sc) cond ifs && chkE (relS scope sc) e elt
    | _ => false
  | .lc2 tg ow src es tg1 ow1 src1 es1 e, pe => match pe with
    | .ListComp elt [⟨t, it, [], 0⟩, ⟨t1, it1, [], 0⟩] scope _ => blkC N sc scope (ownOf N ow) && tame it && tame it1 && ow1.all (fun i => ow.contains i) && (slots tg).all (fun i => ow.contains i) && (slots tg1).all (fun i => ow1.contains i) && chkT tab N (relS scope sc) (fnOf scope) tg t && chkT tab N (relS scope sc) (fnOf scope) tg1 t1
        && (match srcArgs sc src t it with | some xs => chkEs sc es xs | none => false) && (match srcArgs (relS scope sc) src1 t1 it1 with | some xs => chkEs (relS scope sc) es1 xs | none => false) && chkE (relS scope sc) e elt
    | _ => false
def chkEs (sc : Scope) : List E → List Expr → Bool
  | [], xs => xs.isEmpty
  | e :: es, xs => match xs with
    | [] => false
    | x :: r => noStar x && chkE sc e x && chkEs sc es r
end
end
end Ev

end
section
set_option linter.all false
set_option maxRecDepth 100000
/-! Ev: expressions keep what the evaluator says. -/
namespace Ev
open PySem PySem.Spec L2

/-- room for n calls, one in another -/
structure Rm (n : Nat) (A : Around) : Prop where
  hd : A.handled = none
  gd : A.guards = some []
  dp : A.depth + n + 8 < recursionLimit
  un : A.units + 8 * n + 300 < cLine
theorem Rm.mono {m n : Nat} {A : Around} (r : Rm n A) (h : m ≤ n) : Rm m A := ⟨r.hd, r.gd, by have := r.dp; omega, by have := r.un; omega⟩
def bltNames : List Str := ["len", "abs", "int", "tuple", "list", "sum", "max", "min", "sorted", "repr", "range", "zip", "enumerate", "isinstance", "bool", "str"]
/-- what the module's top has left -/
structure TopOk (cfg : Cfg) (nm : Nm) (ca fa : Nat → Addr) (K : PySem.W.Frag) (mg : Str → Option Value) : Prop where
  T : TabOk cfg.tab
  C : ClsOk cfg.tab K ca cfg
  fn : ∀ f x, nm.fn f = some x → mg x = some (.ref (fa f)) ∧ PySem.W.keepIn K (.ref (fa f)) = true
  cn : ∀ c x, nm.cn c = some x → ∃ f, cfg.ini c = some f ∧ mg x = some (.ref (ca c)) ∧ Mk K (ca c) (fa f)
  gn : ∀ g x, nm.gn g = some x → ∃ u v, mg x = some u ∧ RelV v u ∧ ∀ as H, RepD cfg.tab K as H (cfg.glo g) v
  mt : ∀ c m f, cfg.mth c m = some f → m < cfg.tab.length ∧ Cls K (ca c) ∧ Meth K (ca c) (tx cfg.tab m) (fa f)
  fv : ∀ c f, cfg.fnm c = some f → He.ga K (tx cfg.tab c) = fa f ∧ PySem.W.keepIn K (.ref (fa f)) = true
  bl : ∀ x ∈ bltNames, mg x = none
section
variable (P : Program) (w : World) (K : PySem.W.Frag) (mg : Str → Option Value) (base : Heap) (cfg : Cfg) (ca fa : Nat → Addr)
/-- a def keeps what the evaluator says, at a level -/
def FnSnd (n f : Nat) : Prop := ∀ (A : Around) (outer : List PySem.Env) (s : Shared) (H : Hp) (us : List Value) (vs : List V) (Q : VK) (E : XK), Rm n A → Env0 P w K mg base A outer s H → Vals vs us →
  rds cfg.tab K ca (fun L ds => run cfg n f ds L) E vs H Q → codeAny (model P w) A (.call (.ref (fa f)) ⟨us, []⟩) (CR (L2.CX P w) outer P w H s Q E) s
end
structure Cok (cfg : Cfg) (nm : Nm) (ca fa : Nat → Addr) (n : Nat) (X : Cx) (W : WX) : Prop where
  top : TopOk cfg nm ca fa X.K X.mg
  nd : X.N.Nodup
  calm : X.calm = true
  rm : Rm n X.A
  tk : Takes X W
  ps : PassesOwn (model X.prog X.w) X.A X.env X.xe
  fs : ∀ f, FnSnd X.prog X.w X.K X.mg X.base cfg ca fa n f
  fi : ∀ m, n = m + 1 → ∀ f, FnSnd X.prog X.w X.K X.mg X.base cfg ca fa m f

theorem _root_.L2.PE.imp {X : Cx} {e : Expr} {t t' : TE} (h : PE X e t) (i : ∀ σ H Q, t' σ H Q → t σ H Q) : PE X e t' := ⟨fun pins s σ H Q I q => h.run pins s σ H Q I (i σ H Q q)⟩
theorem OpR.ex {X : Cx} {f : Value → Value → Sem Value} {r : XK → R2} (h : ∀ W, OpR X f (r W)) : OpR X f (fun x y H Q => ∃ W, r W x y H Q) := fun pins s σ H x y v u Q I rx ry ⟨W, q⟩ => h W pins s σ H x y v u Q I rx ry q
theorem IxR.ex {X : Cx} {r : XK → R2} (h : ∀ W, IxR X (r W)) : IxR X (fun x y H Q => ∃ W, r W x y H Q) := fun a b pins s σ H x y v u Q I rx ry ⟨W, q⟩ => h W a b pins s σ H x y v u Q I rx ry q
theorem SlR.ex {X : Cx} {r : XK → V → Option Int → Option Int → Hp → VK → Prop} (h : ∀ W, SlR X (r W)) : SlR X (fun x lo hi H Q => ∃ W, r W x lo hi H Q) := fun pins s σ H x v vl vu lo hi sl Q I rx hs pl pu ⟨W, q⟩ => h W pins s σ H x v vl vu lo hi sl Q I rx hs pl pu q
theorem CallR.ex {X : Cx} {f : Value} {r : XK → List V → Hp → VK → Prop} (h : ∀ W, CallR X f (r W)) : CallR X f (fun xs H Q => ∃ W, r W xs H Q) := fun pins s σ H xs us Q I rx ⟨W, q⟩ => h W pins s σ H xs us Q I rx q
theorem MtR.ex {X : Cx} {id : String} {r : XK → V → List V → Hp → VK → Prop} (h : ∀ W, MtR X id (r W)) : MtR X id (fun x xs H Q => ∃ W, r W x xs H Q) := fun pins s σ H x xs v us Q I rx rxs ⟨W, q⟩ => h W pins s σ H x xs v us Q I rx rxs q

/-! ### the text's small questions -/
theorem okName_db {x : Str} (h : okName x = true) : (x == ("__debug__" : Str)) = false := by
  unfold okName at h
  simp only [Bool.and_eq_true, Bool.not_eq_true'] at h
  exact h.1
theorem okName_cd {x : Str} (h : okName x = true) : (x == ("__classdict__" : Str)) = false := by
  unfold okName at h
  simp only [Bool.and_eq_true, Bool.not_eq_true'] at h
  exact h.2
theorem vis_of {sc : Scope} {x : Str} (h : vis sc x = true) : Vis sc x := by
  unfold vis at h
  split at h
  · exact .inl (by assumption)
  · exact .inr (.inl (by assumption))
  · exact .inr (.inr (by assumption))
  · cases h
theorem glb_of {X : Cx} {x : Str} (h : glb X.env.scope x = true) : Gl X x := by
  unfold glb at h
  split at h
  · assumption
  · cases h
theorem tame_behind {op : CmpOp} {e : Expr} (h : tame e = true) : behindInMarks op e = false := by
  cases e <;> first | rfl | (simp [tame] at h)
theorem tame_plain {e : Expr} (h : tame e = true) : ∀ o i : Value, subscripted e false o i = operate [o, i] (getItem o i) := by
  intro o i
  cases e <;> first | rfl | (simp [tame] at h)
theorem tame_folded {e : Expr} {env : PySem.Env} (h : tame e = true) : ∀ x, foldedSetIterable e env x = pure x := by
  intro x
  cases e <;> first | rfl | (simp [tame] at h)
theorem tame_base {o : Expr} {attr : Str} {env : PySem.Env} {whole : Sem Value} (h : tame o = true) : attributeBase o attr env whole = whole := by
  cases o with
  | Call f as ks p =>
    cases f with
    | Name x q =>
      cases as with
      | nil =>
        cases ks with
        | nil =>
          have h : (!(x == ("super" : Str))) = true := h
          have h : (x != ("super" : Str)) = true := h
          unfold attributeBase
          simp [h]
        | cons _ _ => rfl
      | cons _ _ => rfl
    | _ => rfl
  | _ => first | rfl | (simp [tame] at h)
theorem star_cons {e : Expr} {es : List Expr} {env : PySem.Env} (h : noStar e = true) : starEach (e :: es) env = (false, eval e env) :: starEach es env := by
  cases e <;> first | rfl | (simp [noStar] at h)
/-- no star in the row -/
def noStars (es : List Expr) : Bool := es.all noStar
theorem stars_none {env : PySem.Env} {pos : Pos} : ∀ {es : List Expr}, noStars es = true → (backTo pos (starEach es env)).any (·.1) = false
  | [], _ => rfl
  | e :: es, h => by
    unfold noStars at h
    rw [List.all_cons, Bool.and_eq_true] at h
    rw [star_cons h.1]
    unfold backTo
    rw [List.map_cons, List.any_cons]
    exact stars_none (env := env) (pos := pos) h.2
theorem stars_all {env : PySem.Env} {pos : Pos} : ∀ {es : List Expr}, noStars es = true → (backTo pos (starEach es env)).all (fun x => !x.1) = true
  | [], _ => rfl
  | e :: es, h => by
    unfold noStars at h
    rw [List.all_cons, Bool.and_eq_true] at h
    rw [star_cons h.1]
    unfold backTo
    rw [List.map_cons, List.all_cons]
    exact stars_all (env := env) (pos := pos) h.2
theorem few_args {env : PySem.Env} {pos : Pos} {es : List Expr} (h : noStars es = true) (l : es.length < 30) :
    ((backTo pos (starEach es env)).all (fun x => !x.1) && (backToKw pos (keywordEach [] env)).all (fun x => x.1.isSome) && decide (es.length + ([] : List Keyword).length + (if ([] : List Keyword).isEmpty then 0 else 1) < 30)) = true := by
  rw [stars_all h]
  simp [keywordEach, backToKw, l]
/-- the tree of a method's call -/
theorem meth_tree {o : Expr} {name : Str} {apos pos : Pos} {args : List Expr} {env : PySem.Env} (ho : tame o = true) (hs : noStars args = true) (hl : args.length < 30) (hp : (apos.endLine == pos.line) = true) :
    eval (.Call (.Attribute o name apos) args [] pos) env = (do
      let ov ← eval o env
      standAt apos.atName
      let (f, first) ← holding [ov] (getMethod ov name (do return (← importBound o env).getD true))
      callWith pos f first (backTo pos (starEach args env)) (backToKw pos (keywordEach [] env))) := by
  show (do
    let ov ← attributeBase o name env (eval o env)
    standAt apos.atName
    methodCall o name apos pos env ov (args.length + ([] : List Keyword).length) (backTo pos (starEach args env)) (backToKw pos (keywordEach [] env))) = _
  rw [tame_base ho]
  have few : methodCallForm (args.length + ([] : List Keyword).length) (backTo pos (starEach args env)) (backToKw pos (keywordEach [] env)) = true := by
    unfold methodCallForm
    rw [stars_all hs]
    simp [keywordEach, backToKw, hl]
  unfold methodCall
  rw [few]
  unfold calleeOf methodCallPos
  simp only [hp, Bool.not_true, Bool.false_or, if_true, pure_bind]
end Ev

end
section
set_option linter.all false
set_option maxRecDepth 100000
namespace Ev
open PySem PySem.Spec L2

section
variable (cfg : Cfg) (K : PySem.W.Frag) (ca : Nat → Addr) (n : Nat)
/-- an expression's reading, by the evaluator -/
def tE (e : E) (W : WX) : TE := fun σ H Q => ∃ ρ as L, RepE cfg.tab K as H ρ σ ∧ Rp cfg.tab K ca as L H ∧ SO cfg.tab K ca (evE cfg (calls cfg n).1 (calls cfg n).2 e ρ L) (fun c d H' => W c d σ H') as H (K1 cfg.tab K Q)
def tEs (es : List E) (W : WX) : TA := fun σ H Q => ∃ ρ as L, RepE cfg.tab K as H ρ σ ∧ Rp cfg.tab K ca as L H ∧ SO cfg.tab K ca (evEs cfg (calls cfg n).1 (calls cfg n).2 es ρ L) (fun c d H' => W c d σ H') as H fun ds _ as' H' => ∀ xs, RepDs cfg.tab K as' H' ds xs → Q xs H'
/-- .. of a test -/
def tT (e : E) (W : WX) : TT := fun σ H Q => ∃ ρ as L, RepE cfg.tab K as H ρ σ ∧ Rp cfg.tab K ca as L H ∧ SO cfg.tab K ca (evT cfg (calls cfg n).1 (calls cfg n).2 e ρ L) (fun c d H' => W c d σ H') as H fun b _ _ H' => Q b H'
/-- .. of a clause's tests -/
def tC' (es : List E) (W : WX) : TT := fun σ H Q => ∃ ρ as L, RepE cfg.tab K as H ρ σ ∧ Rp cfg.tab K ca as L H ∧ SO cfg.tab K ca (evC cfg (calls cfg n).1 (calls cfg n).2 es ρ L) (fun c d H' => W c d σ H') as H fun b _ _ H' => Q b H'
/-- the slots that may differ -/
def Apart (σ σ' : L2.St) (l : List Nat) : Prop := σ'.length = σ.length ∧ ∀ j, j ∉ l → σ'[j]? = σ[j]?
def gT (t : Tg) : TG := fun v σ H Q => ∃ (W : XK) (d : D) (ρ : Env) (as : List Addr) (L : LH), RepD cfg.tab K as H d v ∧ RepE cfg.tab K as H ρ σ ∧ Rp cfg.tab K ca as L H ∧ SO cfg.tab K ca (asg cfg t d ρ L) W as H fun ρ' _ as' H' => ∀ σ', RepE cfg.tab K as' H' ρ' σ' → Apart σ σ' (slots t) → Q σ' H'
def gTs (ts : List Tg) : TGs := fun vs σ H Q => ∃ (W : XK) (ds : List D) (ρ : Env) (as : List Addr) (L : LH), RepDs cfg.tab K as H ds vs ∧ RepE cfg.tab K as H ρ σ ∧ Rp cfg.tab K ca as L H ∧ SO cfg.tab K ca (asgs cfg ts ds ρ L) W as H fun ρ' _ as' H' => ∀ σ', RepE cfg.tab K as' H' ρ' σ' → Apart σ σ' (slotss ts) → Q σ' H'
end
theorem Apart.refl {σ : L2.St} {l : List Nat} : Apart σ σ l := ⟨rfl, fun _ _ => rfl⟩
theorem Apart.set {σ : L2.St} {i : Nat} {v : Option V} : Apart σ (σ.set i v) [i] := ⟨by simp, fun j h => by rw [List.getElem?_set_ne]; simpa using Ne.symm (by simpa using h)⟩
theorem Apart.trans {σ σ' σ2 : L2.St} {l l' : List Nat} (a : Apart σ σ' l) (b : Apart σ' σ2 l') : Apart σ σ2 (l ++ l') :=
  ⟨b.1.trans a.1, fun j h => by
    rw [List.mem_append, not_or] at h
    exact (b.2 j h.2).trans (a.2 j h.1)⟩
theorem wipe_get (σ : L2.St) : ∀ (l : List Nat) (j : Nat), (L2.wipe σ l)[j]? = if j ∈ l then (if j < σ.length then some none else none) else σ[j]?
  | [], j => by simp [L2.wipe]
  | i :: l, j => by
    unfold L2.wipe
    have len : (L2.wipe σ l).length = σ.length := L2.wipe_length σ l
    by_cases e : i = j
    · subst e
      rw [if_pos List.mem_cons_self]
      by_cases h : i < σ.length
      · rw [List.getElem?_set_self (by rw [len]; exact h), if_pos h]
      · rw [if_neg h, List.getElem?_eq_none (by rw [List.length_set, len]; omega)]
    · rw [List.getElem?_set_ne e, wipe_get σ l j]
      by_cases m : j ∈ l
      · rw [if_pos m, if_pos (List.mem_cons_of_mem _ m)]
      · rw [if_neg m, if_neg]
        simp only [List.mem_cons, not_or]
        exact ⟨Ne.symm e, m⟩
theorem Apart.wiped {σ σ' : L2.St} {l own : List Nat} (a : Apart σ σ' l) (h : ∀ i ∈ l, i ∈ own) : L2.wipe σ' own = L2.wipe σ own := by
  apply List.ext_getElem?
  intro j
  rw [wipe_get, wipe_get, a.1]
  by_cases m : j ∈ own
  · rw [if_pos m, if_pos m]
  · rw [if_neg m, if_neg m]
    exact a.2 j fun z => m (h j z)
theorem wipe_wipe (σ : L2.St) (own : List Nat) : L2.wipe (L2.wipe σ own) own = L2.wipe σ own := by
  apply List.ext_getElem?
  intro j
  rw [wipe_get, wipe_get, L2.wipe_length]
  by_cases m : j ∈ own
  · rw [if_pos m, if_pos m]
  · rw [if_neg m]

section
variable {cfg : Cfg} {nm : Nm} {ca fa : Nat → Addr} {n : Nat} {X : Cx} {W : WX}
/-! ### calls -/
theorem run_call (c : Cok cfg nm ca fa n X W) {pins : List (Addr × Obj)} {σ : L2.St} {H : Hp} {s : Shared} {Q : VK} {us : List Value} {vs : List V} {f : Nat} (I : L2.Inv X pins σ H s) (r : Vals vs us)
    (h : rds cfg.tab X.K ca (fun L ds => run cfg n f ds L) (fun cl d H' => W cl d σ H') vs H Q) : wpAny (model X.prog X.w) X.A (call (.ref (fa f)) us) (EP X pins σ Q) X.xe s := by
  refine wpAny_call (codeAny_mono (c.fs f X.A X.stack s H us vs Q _ c.rm I.env0 r h) fun res s' hq => ?_)
  cases res with
  | error e => exact c.tk e s' (XE.of_call I (fun _ _ _ h => h) hq)
  | ok fl =>
    cases fl with
    | ret u => exact I.after hq
    | _ => exact False.elim hq
theorem mk_frames {A : Around} {C : Addr} {us : List Value} {l : List PySem.Env} (h : A.frames = some l) : (A.under (.builtin "type.__call__" ⟨.ref C :: us, []⟩)).frames = some l := by
  first | exact h | (simpa [Around.under, Code.envs, Code.isFrame, pushEnvs] using h)
theorem mk_guards {A : Around} {C : Addr} {us : List Value} (h : A.guards = some []) : (A.under (.builtin "type.__call__" ⟨.ref C :: us, []⟩)).guards = some [] := by
  first | exact h | (simpa [Around.under, Code.guards, Code.isGuard, guardIds, pushGuards] using h)
theorem Rm.make {m : Nat} {A : Around} (r : Rm (m + 1) A) (C : Addr) (us : List Value) : Rm m (A.under (.builtin "type.__call__" ⟨.ref C :: us, []⟩)) :=
  ⟨r.hd, mk_guards r.gd, by have := r.dp; rw [L2.make_depth]; omega, by have := r.un; rw [L2.make_units]; omega⟩
theorem make_call (c : Cok cfg nm ca fa (m + 1) X W) {pins : List (Addr × Obj)} {σ : L2.St} {H : Hp} {s : Shared} {Q : VK} {us : List Value} {vs : List V} {f k : Nat} (M : Mk X.K (ca k) (fa f)) (I : L2.Inv X pins σ H s) (r : Vals vs us)
    (h : ∀ x dx, H x = none → H dx = none → dx ≠ x → rds cfg.tab X.K ca (fun L ds => run cfg m f ds L) (fun cl d H' => W cl d σ H') (.ref x :: vs) (upd (upd H dx (.own x)) x (.ins (ca k) dx [])) fun v H2 => v = .non ∧ Q (.ref x) H2) :
    wpAny (model X.prog X.w) X.A (call (.ref (ca k)) us) (EP X pins σ Q) X.xe s := by
  have q := h (s.heap.objs.size + 1) s.heap.objs.size (I.hok.fresh (Nat.le_succ _)) (I.hok.fresh (Nat.le_refl _)) (Nat.ne_of_lt (Nat.lt_succ_self _))
  have J := L2.Inv.made (C := ca k) I
  have e0 := J.env0
  have e1 : Env0 X.prog X.w X.K X.mg X.base (X.A.under (.builtin "type.__call__" ⟨.ref (ca k) :: us, []⟩)) X.stack _ _ := ⟨mk_frames e0.frames, e0.mod, e0.bs, e0.bsz, e0.funs, e0.frf, e0.hok, e0.bare⟩
  refine wpAny_call (make_map (f := fa f) I.kIn M.makes M.init (beq_iff_eq.mp M.fn) (codeAny_mono (c.fi m rfl f _ X.stack _ _ (Value.ref (s.heap.objs.size + 1) :: us) (V.ref (s.heap.objs.size + 1) :: vs) _ _ (c.rm.make (ca k) us) e1 (.cons rfl r) q) fun res s' hq => ?_))
  cases res with
  | error e => exact c.tk e s' (XE.of_call J (fun _ _ _ h => h) hq)
  | ok fl =>
    cases fl with
    | ret u =>
      obtain ⟨v, H', I3, rv, ev, q3⟩ := J.after hq
      subst ev
      exact ⟨rv, V.ref (s.heap.objs.size + 1), H', I3, rfl, q3⟩
    | _ => exact False.elim hq
/-! ### targets -/
theorem each_cons {e : Expr} {es : List Expr} {env : PySem.Env} (h : noStar e = true) : assignEach (e :: es) env = (false, assign e env) :: assignEach es env := by
  cases e <;> first | rfl | (simp [noStar] at h)
theorem assign_fld {o : Expr} {f : Str} {pos : Pos} {u : Value} {s : Shared} {Q : Unit → Shared → Prop} (h : wpAny (model X.prog X.w) X.A (eval o X.env) (fun ov s1 => wpAny (model X.prog X.w) X.A (setAttr ov f u) Q X.xe s1) X.xe s) :
    wpAny (model X.prog X.w) X.A (assign (.Attribute o f pos) X.env u) Q X.xe s := by
  show wpAny _ _ (do
    let ov ← holding [u] (eval o X.env)
    standAt pos.atName
    holding [u, ov] (setAttr ov f u)
    release [u, ov] []) _ _ _
  exact wpAny_bind (wpAny_holding (thn h fun ov s1 h1 => wpAny_bind (wpAny_standAt (wpAny_bind (wpAny_holding (thn h1 fun _ s2 q => wpAny_release q))))))
theorem stars_each {env : PySem.Env} : ∀ {es : List Expr}, noStars es = true → (assignEach es env).length = es.length ∧ (assignEach es env).findIdx? (·.1) = none
  | [], _ => ⟨rfl, rfl⟩
  | e :: es, h => by
    unfold noStars at h
    rw [List.all_cons, Bool.and_eq_true] at h
    rw [each_cons h.1]
    obtain ⟨h1, h2⟩ := stars_each (env := env) h.2
    refine ⟨by rw [List.length_cons, List.length_cons, h1], ?_⟩
    rw [List.findIdx?_cons, if_neg (by simp)]
    simp [h2]
theorem chkTs_stars {tab N : List Str} {sc : Scope} {f : Str → Bool} : ∀ {ts : List Tg} {es : List Expr}, chkTs tab N sc f ts es = true → noStars es = true ∧ es.length = ts.length
  | [], es, h => by
    simp only [chkTs] at h
    rw [List.isEmpty_iff.mp h]
    exact ⟨rfl, rfl⟩
  | t :: ts, [], h => by simp [chkTs] at h
  | t :: ts, e :: es, h => by
    simp only [chkTs, Bool.and_eq_true] at h
    obtain ⟨h1, h2⟩ := chkTs_stars h.2
    refine ⟨?_, by rw [List.length_cons, List.length_cons, h2]⟩
    unfold noStars
    rw [List.all_cons, h.1.1]
    exact h1
mutual
theorem asg_calm (cfg : Cfg) : ∀ (t : Tg) (d : D) (ρ : Env) (L : LH) (c : Nat) (L' : LH), asg cfg t d ρ L ≠ .exc c L'
  | .name i, d, ρ, L, c, L', h => by simp [asg] at h
  | .fld i g, d, ρ, L, c, L', h => by
    simp only [asg] at h
    split at h
    · split at h <;> cases h
    · cases h
  | .tup ts, d, ρ, L, c, L', h => by
    simp only [asg] at h
    split at h
    · exact asgs_calm cfg ts _ ρ L c L' h
    · cases h
theorem asgs_calm (cfg : Cfg) : ∀ (ts : List Tg) (ds : List D) (ρ : Env) (L : LH) (c : Nat) (L' : LH), asgs cfg ts ds ρ L ≠ .exc c L'
  | [], [], ρ, L, c, L', h => by simp [asgs] at h
  | [], _ :: _, ρ, L, c, L', h => by simp [asgs] at h
  | _ :: _, [], ρ, L, c, L', h => by simp [asgs] at h
  | t :: ts, d :: ds, ρ, L, c, L', h => by
    simp only [asgs] at h
    cases e : asg cfg t d ρ L with
    | ok ρ1 L1 => rw [e] at h; exact asgs_calm cfg ts ds ρ1 L1 c L' h
    | exc c1 L1 => exact asg_calm cfg t d ρ L c1 L1 e
    | bad => rw [e] at h; cases h
end
theorem calmAsgs (cfg : Cfg) (ts : List Tg) (ds : List D) (ρ : Env) (L : LH) {p : Prop} (h : p ∨ ∀ ρ' L', asgs cfg ts ds ρ L ≠ .ok ρ' L') : p ∨ asgs cfg ts ds ρ L = .bad := by
  rcases h with h | h
  · exact .inl h
  · right
    cases e : asgs cfg ts ds ρ L with
    | ok ρ1 L1 => exact absurd e (h ρ1 L1)
    | exc c1 L1 => exact absurd e (asgs_calm cfg ts ds ρ L c1 L1)
    | bad => rfl
mutual
theorem sndT (c : Cok cfg nm ca fa n X W) {f : Str → Bool} (hf : ∀ x, f x = true → X.fn x = true) : ∀ (t : Tg) (e : Expr), chkT cfg.tab X.N X.env.scope f t e = true → PG X e (gT cfg X.K ca t)
  | .name i, e, h => by
    simp only [chkT] at h
    split at h
    · rename_i x pos
      simp only [Bool.and_eq_true, decide_eq_true_eq, Bool.or_eq_true] at h
      obtain ⟨hi, hx⟩ := h
      have hl : Loc X.env.scope x ∧ (X.fn x = true ∨ X.env.scope.names.lookup x = some .local) := by
        rcases hx with hx | ⟨⟨h1, h2⟩, h3⟩
        · unfold own at hx
          split at hx
          · exact ⟨.inl (by assumption), .inr (by assumption)⟩
          · cases hx
        · refine ⟨?_, .inl (hf x h1)⟩
          rcases vis_of h2 with k | k | k
          · exact .inl k
          · exact .inr k
          · rw [k] at h3; cases h3
      refine ⟨fun pins s σ H v u Q I r q => (pg_name (i := i) c.nd hi hl.1 hl.2).run pins s σ H v u Q I r ?_⟩
      obtain ⟨W', d, ρ, as, L, hd, hρ, rp, h⟩ := q
      simp only [asg] at h
      exact h.here rp _ (hρ.set hd) .set
    · cases h
  | .fld i g, e, h => by
    simp only [chkT] at h
    split at h
    · rename_i x p1 y p2
      simp only [Bool.and_eq_true, decide_eq_true_eq] at h
      obtain ⟨⟨⟨⟨hi, hv⟩, hx⟩, hg⟩, rfl⟩ := h
      refine ⟨fun pins s σ H v u Q I r q => assign_fld ?_⟩
      obtain ⟨W', d, ρ, as, L, hd, hρ, rp, h⟩ := q
      simp only [asg] at h
      split at h
      · rename_i ob eo
        split at h
        · rename_i L' e1
          obtain ⟨vo, eσ, ho⟩ := hρ.2 i ob eo
          refine thn ((pe_var (i := i) hi (vis_of hv) (okName_db hx) (okName_cd hx)).run pins s σ H (fun z H1 => z = vo ∧ H1 = H) I ⟨vo, eσ, rfl, rfl⟩) fun ov s1 ⟨z, H1, I1, rz, e2, e3⟩ => ?_
          subst e2 e3
          obtain ⟨p, C, dx, gs, rfl, h1, h2, h3, h4, h5, h6⟩ := setF_any c.top.T c.top.C rp ho hd e1
          cases (show ov = Value.ref p from rz)
          exact setattr_ok I1 h1 h2 h3 h4 r fun s' I' => ⟨σ, _, I', h _ _ h5 h6 σ (hρ.ext rp h5) .refl⟩
        · exact h.elim
      · exact h.elim
    · cases h
  | .tup ts, e, h => by
    simp only [chkT] at h
    split at h
    · rename_i es k pos
      obtain ⟨h1, h2⟩ := chkTs_stars h
      obtain ⟨h3, h4⟩ := stars_each (env := X.env) h1
      refine ⟨fun pins s σ H v u Q I r q => (pg_tup (n := ts.length) c.calm (sndTs c hf ts es h) (h3.trans h2) h4).run pins s σ H v u Q I r ?_⟩
      obtain ⟨W', d, ρ, as, L, hd, hρ, rp, h⟩ := q
      simp only [asg] at h
      split at h
      · rename_i ds
        simp only [RepD] at hd
        obtain ⟨a, vs, rfl, g1, g2⟩ := hd
        have l : ds.length = ts.length ∨ asgs cfg ts ds ρ L = .bad := by
          have all : ∀ (ts : List Tg) (ds : List D) (ρ : Env) (L : LH), ds.length = ts.length ∨ ∀ ρ' L', asgs cfg ts ds ρ L ≠ .ok ρ' L' := by
            intro ts
            induction ts with
            | nil => intro ds ρ L; cases ds <;> simp [asgs]
            | cons t ts ih =>
              intro ds ρ L
              cases ds with
              | nil => right; intro ρ' L' z; simp [asgs] at z
              | cons d ds =>
                rcases Nat.decEq ds.length ts.length with ne | e
                · right
                  intro ρ' L' z
                  simp only [asgs] at z
                  cases e1 : asg cfg t d ρ L with
                  | ok ρ1 L1 =>
                    rw [e1] at z
                    rcases ih ds ρ1 L1 with e | e
                    · exact ne e
                    · exact e ρ' L' z
                  | exc _ _ => rw [e1] at z; cases z
                  | bad => rw [e1] at z; cases z
                · left; rw [List.length_cons, List.length_cons, e]
          exact calmAsgs cfg ts ds ρ L (all ts ds ρ L)
        rcases l with l | l
        · exact ⟨a, vs, rfl, g1, by rw [← g2.length, l], W', ds, ρ, as, L, g2, hρ, rp, h⟩
        · rw [l] at h; exact h.elim
      · exact h.elim
    · cases h
theorem sndTs (c : Cok cfg nm ca fa n X W) {f : Str → Bool} (hf : ∀ x, f x = true → X.fn x = true) : ∀ (ts : List Tg) (es : List Expr), chkTs cfg.tab X.N X.env.scope f ts es = true → PGs X es (gTs cfg X.K ca ts)
  | [], es, h => by
    simp only [chkTs] at h
    rw [List.isEmpty_iff.mp h]
    refine ⟨fun pins s σ H vs us Q I r q => pgs_nil.run pins s σ H vs us Q I r ?_⟩
    obtain ⟨W', ds, ρ, as, L, hd, hρ, rp, h⟩ := q
    cases ds with
    | nil =>
      simp only [asgs] at h
      exact ⟨hd, h.here rp σ hρ .refl⟩
    | cons d ds => simp only [asgs] at h; exact h.elim
  | t :: ts, [], h => by simp [chkTs] at h
  | t :: ts, e :: es, h => by
    simp only [chkTs, Bool.and_eq_true] at h
    refine ⟨fun pins s σ H vs us Q I r q => (pgs_cons (sndT c hf t e h.1.2) (sndTs c hf ts es h.2) (by rw [each_cons h.1.1, List.map_cons])).run pins s σ H vs us Q I r ?_⟩
    obtain ⟨W', ds, ρ, as, L, hd, hρ, rp, h⟩ := q
    cases ds with
    | nil => simp only [asgs] at h; exact h.elim
    | cons d ds =>
      simp only [asgs] at h
      obtain ⟨x, xs, rfl, g1, g2⟩ := hd
      refine ⟨x, xs, rfl, W', d, ρ, as, L, g1, hρ, rp, h.bind.mono fun ρ1 L1 as1 H1 x1 r1 h1 σ1 hσ1 a1 => ?_⟩
      refine ⟨W', ds, ρ1, as1, L1, g2.ext rp x1, hσ1, r1, h1.mono fun ρ2 L2 as2 H2 x2 r2 h2 σ2 hσ2 a2 => ?_⟩
      exact h2 σ2 hσ2 (a1.trans a2)
end
end
end Ev

end
section
set_option linter.all false
set_option maxRecDepth 100000
/-! Ev: enumerate over a tuple. -/
namespace Ev
open PySem PySem.Spec L2
open PySem.AutoSeq1 (wpAny_loadPart')
set_option maxHeartbeats 1000000 in
theorem made_enum (t : Addr) (items : Array Value) (n : Nat) (dct : Option Addr) (sl : Array (Option Value)) :
    Meets (Builtin.«enumerate.__new__» ⟨[.type "enumerate", .ref t], []⟩) (fun _ R s => s.heap.get? t = some { cls := .type "tuple", dict := dct, data := .seq items n, slots := sl } ∧
      R (.ok (.ret (.ref (s.heap.push { cls := .type "tuple_iterator", data := .fields #[.ref t, .int 0 0] }).objs.size)))
        { s with heap := (s.heap.push { cls := .type "tuple_iterator", data := .fields #[.ref t, .int 0 0] }).push { cls := .type "enumerate", data := .fields #[.none, .bool false, .ref s.heap.objs.size, rawInt 0, .none, .none] } }) :=
  .of_wp fun prog w A R s h => by
    obtain ⟨hp, g, d, tk, os⟩ := s
    obtain ⟨ht, h⟩ := h
    have sub := sub_enumerate
    have hT : Heap.IsTuple (Shared.heap ⟨hp, g, d, tk, os⟩) t items := ⟨_, ht, rfl, n, rfl⟩
    wp_walk using wpAny_loadPart' ht
    refine wpAny_stack_any fun st => wpAny_pure ?_
    split
    · rename_i c _ _ _ _ _
      cases (c == Value.type "enumerate")
      · wp_walk using wpAny_loadPart' ht, wpAny_pyIter_tuple hT
        exact ⟨_, rfl, h⟩
      · wp_walk using wpAny_loadPart' ht, wpAny_pyIter_tuple hT
        exact ⟨_, rfl, h⟩
    · wp_walk using wpAny_loadPart' ht, wpAny_pyIter_tuple hT
      exact ⟨_, rfl, h⟩
section
variable {prog : Program} {w : World} {A : Around} {E : Value → Shared → Prop} {s : Shared}
theorem call_enum {t : Addr} {items : Array Value} {Q : Value → Shared → Prop} (hT : s.heap.IsTuple t items)
    (h : ∀ h', IsEnum h' (s.heap.objs.size + 1) s.heap.objs.size 0 .none → h'.IsTupleIter s.heap.objs.size t 0 → (∀ b o, s.heap.get? b = some o → h'.get? b = some o) → Q (.ref (s.heap.objs.size + 1)) { s with heap := h' }) :
    wpAny (model prog w) A (call (.type "enumerate") [.ref t]) Q E s := by
  obtain ⟨⟨c, dct, dt, sl⟩, hl, hc, n, hd⟩ := hT
  replace hc : c = .type "tuple" := hc
  replace hd : dt = .seq items n := hd
  subst hc hd
  have size : (s.heap.push { cls := .type "tuple_iterator", data := .fields #[.ref t, .int 0 0] }).objs.size = s.heap.objs.size + 1 := Heap.size_push ..
  refine callType_new F.called_enumerate (by decide) (F.typeCall_enumerate_1 _) (F.newCall_enumerate_1 _) (fun obj => F.args_object_init_2 obj _) F.entry_enumerate_new (made_enum t items n dct sl) ⟨hl, ?_⟩
  show _ ∧ _
  rw [size]
  have at1 : IsEnum ((s.heap.push { cls := .type "tuple_iterator", data := .fields #[.ref t, .int 0 0] }).push { cls := .type "enumerate", data := .fields #[.none, .bool false, .ref s.heap.objs.size, rawInt 0, .none, .none] })
      (s.heap.objs.size + 1) s.heap.objs.size 0 .none := by
    have q := Heap.get?_push_size (s.heap.push { cls := .type "tuple_iterator", data := .fields #[.ref t, .int 0 0] }) (o := { cls := .type "enumerate", data := .fields #[.none, .bool false, .ref s.heap.objs.size, rawInt 0, .none, .none] }) rfl
    rw [size] at q
    exact q
  exact ⟨⟨_, at1, rfl⟩, h _ at1 ⟨_, Heap.get?_push_of_some _ (Heap.get?_push_size _ rfl), rfl, rfl⟩ fun b o x => Heap.get?_push_of_some _ (Heap.get?_push_of_some _ x)⟩
end
/-- the items of the tuple at a, with their numbers, in new pairs -/
def IteT (K : PySem.W.Frag) (a : Addr) : It :=
  ⟨fun i H => ∃ (xs : List V) (x : V), SqT K H a xs ∧ xs[i]? = some x,
    fun i H v H' => ∃ T x, v = .ref T ∧ H T = none ∧ H' = upd H T (.tup [.int (i : Nat), x]) ∧ ∀ xs, SqT K H a xs → xs[i]? = some x,
    fun i H => ∃ xs : List V, SqT K H a xs ∧ xs.length = i⟩
theorem turn_enumT {P : Program} {w : World} {K : PySem.W.Frag} {elts : List Expr} {kk : Nat} {tpos : Pos} (a e it : Addr) :
    Turn P w K (.Tuple elts kk tpos) (IteT K a) [e, it] e (fun i h => (∃ old, IsEnum h e it ((i : Nat) : Int) old) ∧ h.IsTupleIter it a i ∧ e ≠ it ∧ e ≠ a ∧ a ≠ it) where
  mem := by simp
  obj := fun i h st b hb => by
    obtain ⟨⟨old, he⟩, ⟨o, ho, hc, hd⟩, _⟩ := st
    rcases (show b = e ∨ b = it by simpa using hb) with rfl | rfl
    · exact ⟨_, he, fun v q => nomatch q⟩
    · exact ⟨o, ho, fun v q => by rw [hd] at q; cases q⟩
  keep := fun i h h' st k => let ⟨⟨old, he⟩, hi, ne⟩ := st; ⟨⟨old, k e (by simp) _ he⟩, hi.at fun o q => k it (by simp) o q, ne⟩
  item := by
    intro X hP hw hK hc i pins s σ H E I hf st hg
    subst hP hw hK
    obtain ⟨⟨old, he⟩, hit, ne1, ne2, ne3⟩ := st
    obtain ⟨xs, x, hq, hx⟩ := hg
    obtain ⟨its, rv, p, _⟩ := I.tuple hq
    obtain ⟨u, hu, ru⟩ := rv.get hx
    have le : e < s.heap.objs.size := Heap.lt_size he
    have li : it < s.heap.objs.size := by obtain ⟨_, q, _⟩ := hit; exact Heap.lt_size q
    have hs : its.toArray.size = its.length := by simp
    have hlt : i < its.toArray.size := by rw [hs]; exact (List.getElem?_eq_some_iff.mp hu).1
    refine wpAny_pyNext_enum_itemD (Draws.tuple (A := X.A.in1) (I.ok.hd hc) it a ne3 its.toArray) he ⟨hit, p⟩ hlt ne1 (by simp; exact ⟨ne1, ne2⟩) fun u' h' tk hu' ho hst hT hsz hk => ?_
    have eu : u' = u := by
      have q : its.toArray[i]? = some u := by simpa using hu
      rw [hu'] at q
      exact Option.some.inj q
    subst eu
    refine ⟨_, rfl, wpAny_letOwnedTupleGo_enum (s := { s with heap := h', toks := tk + 1 }) ho fun h2 he2 sb => ?_⟩
    have hT2 : h2.get? s.heap.objs.size = some { cls := .type "tuple", data := .seq #[.int i tk, u'] } := (sb.2 _ (Nat.ne_of_gt le)).trans hT
    have new : ObjOk X.prog X.w (upd H s.heap.objs.size (.tup [.int (i : Nat), x])) h2 s.heap.objs.size (.tup [.int (i : Nat), x]) :=
      ⟨by show 2 ≤ sizeLine; decide, [.int i tk, u'], .cons ⟨tk, rfl⟩ (.cons ru .nil), ⟨_, hT2, rfl, _, rfl⟩⟩
    have J : L2.Inv X pins σ (upd H s.heap.objs.size (.tup [.int (i : Nat), x])) { s with heap := h2, toks := tk + 1 } :=
      I.turnedNew (ch := [e, it]) (fun b ob hb q => by
        have hb : b ≠ e ∧ b ≠ it := by simpa using hb
        exact (sb.2 b hb.1).trans (hk b ob hb.1 hb.2 q)) hf (Nat.le_refl _) new
    refine ⟨.ref s.heap.objs.size, _, J, rfl, ⟨_, x, rfl, I.hok.fresh (Nat.le_refl _), rfl, fun ys hy => by rw [I.tuple_inj hy hq]; exact hx⟩, ⟨⟨u', ?_⟩, hst.1.at fun o q => (sb.2 it (Ne.symm ne1)).trans q, ne1, ne2, ne3⟩, fun b hb => ?_⟩
    · rw [show ((i + 1 : Nat) : Int) = (i : Int) + 1 by omega]; exact he2
    · have lb : b < s.heap.objs.size := by
        rcases (show b = e ∨ b = it by simpa using hb) with rfl | rfl
        · exact le
        · exact li
      rw [upd_ne (Nat.ne_of_lt lb)]
      exact (hf b hb).1
  done := by
    intro X hP hw hK hc i pins s σ H E I hf st hg
    subst hP hw hK
    obtain ⟨⟨old, he⟩, hit, ne1, ne2, ne3⟩ := st
    obtain ⟨xs, hq, hx⟩ := hg
    obtain ⟨its, rv, p, _⟩ := I.tuple hq
    obtain ⟨f0, f1, f2, f3, f4, f5⟩ := hf it (by simp)
    have hs : its.toArray.size = i := by rw [← hx, rv.length]; simp
    have D := Draws.tuple (prog := X.prog) (w := X.w) (A := X.A.in1) (I.ok.hd hc) it a ne3 its.toArray
    refine wpAny_pyNext_enum_endD D he (by rw [hs]; exact ⟨hit, p⟩) fun h' eb => ⟨rfl, I.turned (t' := s.toks) (fun b o hb q => eb b o hb q) f0 f1 f3 f4 f5⟩
  self := fun A i s Q E st h => let ⟨⟨_, he⟩, _⟩ := st; wpAny_pyIter_enum he h
def iEnT (K : PySem.W.Frag) (ta : TA) : TI := fun σ H R => ta σ H fun vs H1 => ∃ a xs, vs = [.ref a] ∧ SqT K H1 a xs ∧ R (IteT K a) H1
theorem pi_enT {X : Cx} {e : Expr} {ta : TA} {p pos tpos : Pos} {elts : List Expr} {kk : Nat} (hg : Gl X "enumerate") (hm : X.mg "enumerate" = none) (ha : PA X [e] ta) (hs : starEach [e] X.env = [(false, eval e X.env)]) :
    PI X (.Tuple elts kk tpos) (.Call (.Name "enumerate" p) [e] [] pos) (iEnT X.K ta) := by
  refine ⟨fun pins s σ H R I h => PyProof.Rows.Call_ (ld_blt I hg hm PyProof.Rows.boot_enumerate (PyProof.Rows.callWith_type1 (thn (ha.run pos pins s σ H _ I h) fun us s1 hq => ?_) hs rfl))⟩
  obtain ⟨vs, H1, I1, r1, a, xs, rfl, hq, q⟩ := hq
  cases r1 with
  | cons r rr =>
    cases rr
    cases r
    obtain ⟨its, rv, pt, _⟩ := I1.tuple hq
    have la : a < s1.heap.objs.size := Heap.lt_size pt.choose_spec.1
    refine call_enum (items := its.toArray) pt fun h' he hit hk => wpAny_pyIter_enum he ?_
    have I2 : L2.Inv X pins σ H1 { s1 with heap := h' } := I1.kept (t' := s1.toks) hk
    refine ⟨s1.heap.objs.size + 1, [s1.heap.objs.size + 1, s1.heap.objs.size], _, _, H1, rfl, I2, turn_enumT a (s1.heap.objs.size + 1) s1.heap.objs.size, ⟨⟨.none, he⟩, hit, Nat.succ_ne_self _, Nat.ne_of_gt (Nat.lt_succ_of_lt la), Nat.ne_of_lt la⟩, fun b hb => ?_, q⟩
    have le : s1.heap.objs.size ≤ b := by
      rcases (show b = s1.heap.objs.size + 1 ∨ b = s1.heap.objs.size by simpa using hb) with rfl | rfl
      · exact Nat.le_add_right _ _
      · exact Nat.le_refl _
    exact I1.fpOk le (I1.hok.fresh le)
end Ev

end
section
set_option linter.all false
set_option maxRecDepth 100000
/-! Ev: what changes beside the known objects; lists that grow within a loop. -/
namespace Ev
open PySem PySem.Spec L2

/-- tuples and locked things stay -/
structure Agr (as : List Addr) (H : Hp) (as' : List Addr) (H' : Hp) : Prop where
  pre : as <+: as'
  tup : ∀ b xs, H b = some (.tup xs) → H' b = some (.tup xs)
  frz : ∀ b o u, H b = some (.frz o u) → H' b = some (.frz o u)
section
variable {tab : List Str} {K : PySem.W.Frag} {ca : Nat → Addr} {as as' as2 : List Addr} {L L' : LH} {H H' H2 : Hp}
theorem Agr.at (x : Agr as H as' H') {n : Nat} {a : Addr} (e : as[n]? = some a) : as'[n]? = some a := by
  obtain ⟨t, rfl⟩ := x.pre
  obtain ⟨h, rfl⟩ := List.getElem?_eq_some_iff.mp e
  rw [List.getElem?_append_left h]; exact List.getElem?_eq_getElem h
theorem Ext.agr (r : Rp tab K ca as L H) (x : Ext as H as' H') : Agr as H as' H' := ⟨x.pre, fun b xs e => x.keep b _ e (r.notTup e), fun b o u e => x.keep b _ e (r.notFrz e)⟩
theorem Agr.refl : Agr as H as H := ⟨List.prefix_refl _, fun _ _ e => e, fun _ _ _ e => e⟩
theorem Agr.trans (x : Agr as H as' H') (y : Agr as' H' as2 H2) : Agr as H as2 H2 := ⟨x.pre.trans y.pre, fun b xs e => y.tup b xs (x.tup b xs e), fun b o u e => y.frz b o u (x.frz b o u e)⟩
theorem scr_agr (x : Agr as H as' H') {a : Addr} {ns : List Int} (h : ScrAt K H a ns) : ScrAt K H' a ns := by
  rcases h with ⟨o, h⟩ | h
  · exact .inl ⟨o, x.frz _ _ _ h⟩
  · exact .inr h
theorem sqT_agr (x : Agr as H as' H') {a : Addr} {vs : List V} (h : SqT K H a vs) : SqT K H' a vs := by
  rcases h with (h | ⟨o, h⟩) | h
  · exact .inl (.inl (x.tup _ _ h))
  · exact .inl (.inr ⟨o, x.frz _ _ _ h⟩)
  · exact .inr h
mutual
theorem RepD.agr (x : Agr as H as' H') : ∀ (d : D) (v : V), RepD tab K as H d v → RepD tab K as' H' d v
  | .non, v, h => h
  | .bl _, v, h => h
  | .int _, v, h => h
  | .str _, v, h => h
  | .txt _, v, h => h
  | .tup ds, v, h => by
    simp only [RepD] at h ⊢
    obtain ⟨a, vs, e, h1, h2⟩ := h
    exact ⟨a, vs, e, sqT_agr x h1, RepDs.agr x ds vs h2⟩
  | .ref n, v, h => by
    simp only [RepD] at h ⊢
    obtain ⟨a, e, h⟩ := h
    exact ⟨a, x.at e, h⟩
  | .scr ns, v, h => by
    simp only [RepD] at h ⊢
    obtain ⟨a, e, h⟩ := h
    refine ⟨a, e, ?_⟩
    rcases h with ⟨o, h⟩ | h
    · exact .inl ⟨o, x.frz _ _ _ h⟩
    · exact .inr h
  | .fn _, v, h => h
theorem RepDs.agr (x : Agr as H as' H') : ∀ (ds : List D) (vs : List V), RepDs tab K as H ds vs → RepDs tab K as' H' ds vs
  | [], vs, h => h
  | d :: ds, vs, h => by
    simp only [RepDs] at h ⊢
    obtain ⟨y, ys, e, h1, h2⟩ := h
    exact ⟨y, ys, e, RepD.agr x d y h1, RepDs.agr x ds ys h2⟩
end
theorem RepKs.agr (x : Agr as H as' H') : ∀ (kvs : List (Ky × D)) (ks : List (Key × V)), RepKs tab K as H kvs ks → RepKs tab K as' H' kvs ks
  | [], _, h => h
  | (k, d) :: kvs, ks, h => by
    obtain ⟨y, ys, e, h0, h1, h2⟩ := h
    exact ⟨y, ys, e, h0, RepD.agr x d y h1, RepKs.agr x kvs ys h2⟩
theorem RepFs.agr (x : Agr as H as' H') : ∀ (kvs : List (Nat × D)) (ks : List (Str × V)), RepFs tab K as H kvs ks → RepFs tab K as' H' kvs ks
  | [], _, h => h
  | (k, d) :: kvs, ks, h => by
    obtain ⟨y, ys, e, h0, h1, h2⟩ := h
    exact ⟨y, ys, e, h0, RepD.agr x d y h1, RepFs.agr x kvs ys h2⟩
theorem RepO.agr (x : Agr as H as' H') {a : Addr} {o : LO} (e : H' a = H a) (h : RepO tab K ca as H a o) : RepO tab K ca as' H' a o := by
  cases o with
  | lst ds => obtain ⟨vs, h1, h2⟩ := h; exact ⟨vs, e.trans h1, RepDs.agr x ds vs h2⟩
  | dic kvs => obtain ⟨ks, h1, h2, h3⟩ := h; exact ⟨ks, e.trans h1, RepKs.agr x kvs ks h2, h3⟩
  | ins c fs => obtain ⟨dx, gs, h1, h2⟩ := h; exact ⟨dx, gs, e.trans h1, RepFs.agr x fs gs h2⟩
theorem RepE.agr {ρ : Env} {σ : L2.St} (x : Agr as H as' H') (h : RepE tab K as H ρ σ) : RepE tab K as' H' ρ σ :=
  ⟨h.1, fun i d e => let ⟨v, e', q⟩ := h.2 i d e; ⟨v, e', q.agr x⟩⟩
/-- a list or a dict, not yet known, is written -/
def Loose (o : Option HO) : Prop := (∃ vs, o = some (.lst vs)) ∨ ∃ ks, o = some (.dK ks)
theorem agr_side {D : Addr} {u : HO} (h : Loose (H D)) (pre : as <+: as') : Agr as H as' (upd H D u) := by
  refine ⟨pre, fun b xs e => ?_, fun b o v e => ?_⟩
  · rw [upd_ne fun z => ?_]; exact e
    subst z
    rcases h with ⟨_, h⟩ | ⟨_, h⟩ <;> (rw [h] at e; cases e)
  · rw [upd_ne fun z => ?_]; exact e
    subst z
    rcases h with ⟨_, h⟩ | ⟨_, h⟩ <;> (rw [h] at e; cases e)
theorem Rp.side (r : Rp tab K ca as L H) {D : Addr} {u : HO} (nd : D ∉ as) (h : Loose (H D)) : Rp tab K ca as L (upd H D u) :=
  ⟨r.len, r.nd, fun n o e => by
    obtain ⟨a, ea, ho⟩ := r.obj n o e
    refine ⟨a, ea, ho.agr (agr_side h (List.prefix_refl _)) (upd_ne fun z => ?_)⟩
    subst z
    exact nd (List.mem_of_getElem? ea)⟩
theorem Rp.adopt (r : Rp tab K ca as L H) {D : Addr} {u : HO} {o : LO} (nd : D ∉ as) (h : Loose (H D)) (ho : RepO tab K ca (as ++ [D]) (upd H D u) D o) : Rp tab K ca (as ++ [D]) (L ++ [o]) (upd H D u) := by
  refine ⟨by rw [List.length_append, List.length_append, r.len]; rfl, ?_, fun n o' e => ?_⟩
  · rw [List.nodup_append]
    exact ⟨r.nd, by simp, fun a ha b hb z => nd (by rw [List.mem_singleton.mp hb] at z; rw [← z]; exact ha)⟩
  · by_cases hn : n < L.length
    · rw [List.getElem?_append_left hn] at e
      obtain ⟨a, ea, ho'⟩ := r.obj n o' e
      have x := agr_side (u := u) h (List.prefix_append as [D])
      refine ⟨a, x.at ea, ho'.agr x (upd_ne fun z => ?_)⟩
      subst z
      exact nd (List.mem_of_getElem? ea)
    · rw [List.getElem?_append_right (by omega)] at e
      have hz : n - L.length = 0 := by
        by_cases z : n - L.length = 0
        · exact z
        · rw [List.getElem?_eq_none (by simp; omega)] at e; cases e
      rw [hz] at e
      simp at e
      subst e
      have hn' : n = as.length := by rw [r.len]; omega
      exact ⟨D, by rw [hn']; simp, ho⟩
/-- seen from where the thing was not there -/
theorem Ext.side (x : Ext as H as' H') {D : Addr} {u : HO} (h : H D = none) : Ext as H as' (upd H' D u) :=
  ⟨x.pre, fun b o e n => by rw [upd_ne (ne_of_none e h)]; exact x.keep b o e n, x.new⟩
theorem Ext.adopt (x : Ext as H as' H') {D : Addr} (h : H D = none) : Ext as H (as' ++ [D]) H' :=
  ⟨x.pre.trans (List.prefix_append _ _), x.keep, fun b m n => by
    rcases List.mem_append.mp m with m | m
    · exact x.new b m n
    · rw [List.mem_singleton.mp m]; exact h⟩
theorem upd_id {D : Addr} {u : HO} (h : H D = some u) : upd H D u = H := by
  funext b
  by_cases e : b = D
  · subst e; rw [upd_same, h]
  · rw [upd_ne e]

/-- a part of a longer run -/
theorem SO.part {α β : Type} {m : R α} {f : α → LH → R β} {W W' : XK} {as0 : List Addr} {H0 : Hp} {Φ : β → LH → List Addr → Hp → Prop} {Ψ : α → LH → List Addr → Hp → Prop} (h : SO tab K ca (m.calm.bind f) W as0 H0 Φ) (x0 : Ext as0 H0 as H)
    (g : ∀ v L' as' H', Ext as0 H0 as' H' → Ext as H as' H' → Rp tab K ca as' L' H' → SO tab K ca (f v L') W as0 H0 Φ → Ψ v L' as' H') : SO tab K ca m W' as H Ψ := by
  cases m with
  | bad => exact h.elim
  | exc c L' => exact h.elim
  | ok v L' => exact fun as' H' x r => g v L' as' H' (x0.trans x) x r h
/-- .. that may raise, under the same wish -/
theorem SO.partX {α β : Type} {m : R α} {f : α → LH → R β} {W : XK} {as0 : List Addr} {H0 : Hp} {Φ : β → LH → List Addr → Hp → Prop} {Ψ : α → LH → List Addr → Hp → Prop} (h : SO tab K ca (m.bind f) W as0 H0 Φ) (x0 : Ext as0 H0 as H)
    (g : ∀ v L' as' H', Ext as0 H0 as' H' → Ext as H as' H' → Rp tab K ca as' L' H' → SO tab K ca (f v L') W as0 H0 Φ → Ψ v L' as' H') : SO tab K ca m W as H Ψ := by
  cases m with
  | bad => exact h.elim
  | exc c L' => exact fun as' H' x r => h as' H' (x0.trans x) r
  | ok v L' => exact fun as' H' x r => g v L' as' H' (x0.trans x) x r h
theorem calm_calm {α : Type} (m : R α) : m.calm.calm = m.calm := by cases m <;> rfl
theorem R.bind_assoc {α β γ : Type} (m : R α) (f : α → LH → R β) (g : β → LH → R γ) : (m.bind f).bind g = m.bind fun a L => (f a L).bind g := by cases m <;> rfl

variable (tab K ca) in
/-- a list that grows beside the known objects -/
structure Grow (as0 : List Addr) (H0 : Hp) (D : Addr) (as : List Addr) (L : LH) (H : Hp) (acc : List Ev.D) (accV : List V) : Prop where
  abs : H0 D = Option.none
  ext : Ext as0 H0 as H
  rp : Rp tab K ca as L H
  nin : D ∉ as
  lst : H D = some (.lst accV)
  rep : RepDs tab K as H acc accV
theorem Grow.start (r : Rp tab K ca as L H) {D : Addr} (h : H D = none) : Grow tab K ca as H D as L (upd H D (.lst [])) [] [] :=
  ⟨h, ext_fresh _ h, r.fresh _ h, fun m => r.there m h, upd_same, .nil⟩
theorem Grow.step {as0 : List Addr} {H0 : Hp} {D : Addr} {acc : List Ev.D} {accV : List V} (g : Grow tab K ca as0 H0 D as L H acc accV) (x : Ext as H as' H') (r : Rp tab K ca as' L' H') : Grow tab K ca as0 H0 D as' L' H' acc accV :=
  ⟨g.abs, g.ext.trans x, r, fun m => (by have := x.new D m g.nin; rw [g.lst] at this; cases this), x.keep D _ g.lst g.nin, g.rep.ext g.rp x⟩
theorem Grow.push {as0 : List Addr} {H0 : Hp} {D : Addr} {acc : List Ev.D} {accV : List V} {d : Ev.D} {v : V} (g : Grow tab K ca as0 H0 D as L H acc accV) (h : RepD tab K as H d v) : Grow tab K ca as0 H0 D as L (upd H D (.lst (accV ++ [v]))) (acc ++ [d]) (accV ++ [v]) := by
  have lo : Loose (H D) := .inl ⟨_, g.lst⟩
  have x := agr_side (u := .lst (accV ++ [v])) lo (List.prefix_refl as)
  exact ⟨g.abs, g.ext.side g.abs, g.rp.side g.nin lo, g.nin, upd_same, (g.rep.agr x).append (.cons (h.agr x) .nil)⟩
theorem Grow.done {as0 : List Addr} {H0 : Hp} {D : Addr} {acc : List Ev.D} {accV : List V} (g : Grow tab K ca as0 H0 D as L H acc accV) : Ext as0 H0 (as ++ [D]) H ∧ Rp tab K ca (as ++ [D]) (L ++ [.lst acc]) H ∧ RepD tab K (as ++ [D]) H (.ref L.length) (.ref D) := by
  have lo : Loose (H D) := .inl ⟨_, g.lst⟩
  have x := agr_side (u := .lst accV) lo (List.prefix_append as [D])
  have r := g.rp.adopt (u := .lst accV) (o := .lst acc) g.nin lo ⟨accV, upd_same, g.rep.agr x⟩
  rw [upd_id g.lst] at r
  refine ⟨g.ext.adopt g.abs, r, ?_⟩
  simp only [RepD]
  exact ⟨D, by rw [← g.rp.len]; simp, rfl⟩

/-! ### what is walked -/
/-- the item at a turn: none, where there is nothing to be walked; some none at the end -/
def at_ (iv : IV) (L : LH) (i : Nat) : Option (Option D) := match iv with
  | .items ds => some ds[i]?
  | .lst n => match L[n]? with
    | some (.lst xs) => some xs[i]?
    | _ => none
def le_ (iv : IV) (i : Nat) : Prop := match iv with
  | .items ds => i ≤ ds.length
  | .lst _ => True
variable (tab K ca) in
def IvOk (as : List Addr) (H : Hp) (iv : IV) (J : It) : Prop := ∀ (i : Nat) (as' : List Addr) (L' : LH) (H' : Hp) (o : Option D), Agr as H as' H' → Rp tab K ca as' L' H' → at_ iv L' i = some o → le_ iv i →
  (o = none → J.stop i H') ∧ ∀ d, o = some d → J.go i H' ∧ ∀ x H2, J.yld i H' x H2 → Ext as' H' as' H2 ∧ Rp tab K ca as' L' H2 ∧ RepD tab K as' H2 d x
/-- what is left of a loop -/
def left {β γ : Type} (step : D → β → LH → R (Step β γ)) (iv : IV) (i m : Nat) (b : β) (L : LH) : R (Step β γ) := match iv with
  | .items ds => if m = 0 ∨ i + m ≤ ds.length ∨ ds.length < i then .bad else loopI step (ds.drop i) b L
  | .lst n => loopL step n m i b L
theorem left_start {β γ : Type} (step : D → β → LH → R (Step β γ)) (iv : IV) (b : β) (L : LH) : ∃ m, loopV step iv b L = left step iv 0 m b L ∨ loopV step iv b L = .bad := by
  cases iv with
  | items ds => exact ⟨ds.length + 1, .inl (by show loopI step ds b L = if _ then _ else _; rw [if_neg (by omega)]; rfl)⟩
  | lst n =>
    unfold loopV
    cases e : L[n]? with
    | none => exact ⟨0, .inr (by simp [e])⟩
    | some o =>
      cases o with
      | lst xs => exact ⟨xs.length + 1, .inl (by simp [e, left])⟩
      | _ => exact ⟨0, .inr (by simp [e])⟩
/-- on to the next turn -/
def next_ {β γ : Type} (step : D → β → LH → R (Step β γ)) (iv : IV) (i m : Nat) : Step β γ → LH → R (Step β γ) := fun s L' => match s with
  | .more b' => left step iv i m b' L'
  | .done g => .ok (.done g) L'
theorem left_turn {β γ : Type} (step : D → β → LH → R (Step β γ)) (iv : IV) (i m : Nat) (b : β) (L : LH) : left step iv i m b L = .bad ∨ ∃ m' o, m = m' + 1 ∧ at_ iv L i = some o ∧ le_ iv i ∧
    (o = none → left step iv i m b L = .ok (.more b) L) ∧ ∀ d, o = some d → left step iv i m b L = (step d b L).bind (next_ step iv (i + 1) m') := by
  cases iv with
  | items ds =>
    by_cases c : m = 0 ∨ i + m ≤ ds.length ∨ ds.length < i
    · left
      show (if m = 0 ∨ i + m ≤ ds.length ∨ ds.length < i then R.bad else _) = _
      rw [if_pos c]
    · cases m with
      | zero => exact absurd (.inl rfl) c
      | succ m =>
        right
        refine ⟨m, ds[i]?, rfl, rfl, (by show i ≤ ds.length; omega), fun e => ?_, fun d e => ?_⟩
        · show (if m + 1 = 0 ∨ i + (m + 1) ≤ ds.length ∨ ds.length < i then R.bad else loopI step (ds.drop i) b L) = _
          rw [if_neg c]
          rw [List.drop_eq_nil_of_le (List.getElem?_eq_none_iff.mp e)]
          rfl
        · show (if m + 1 = 0 ∨ i + (m + 1) ≤ ds.length ∨ ds.length < i then R.bad else loopI step (ds.drop i) b L) = _
          rw [if_neg c]
          obtain ⟨hi, rfl⟩ := List.getElem?_eq_some_iff.mp e
          rw [List.drop_eq_getElem_cons hi]
          show (step ds[i] b L).bind _ = _
          congr 1
          funext s L'
          cases s with
          | more b' =>
            show loopI step (ds.drop (i + 1)) b' L' = if m = 0 ∨ i + 1 + m ≤ ds.length ∨ ds.length < i + 1 then R.bad else _
            rw [if_neg (by omega)]
          | done g => rfl
  | lst n =>
    cases m with
    | zero => exact .inl rfl
    | succ m =>
      unfold left
      simp only [loopL]
      unfold at_
      cases e : L[n]? with
      | none => exact .inl (by simp [e])
      | some o =>
        cases o with
        | lst xs =>
          right
          refine ⟨m, xs[i]?, rfl, by simp [e], True.intro, fun e2 => ?_, fun d e2 => ?_⟩
          · simp only [e, e2]
          · simp only [e, e2]
            rfl
        | _ => exact .inl (by simp [e])
end
end Ev

end
section
set_option linter.all false
set_option maxRecDepth 100000
/-! Ev: the small expressions. -/
namespace Ev
open PySem PySem.Spec L2

theorem _root_.L2.PT.imp {X : Cx} {e : Expr} {t t' : TT} (h : PT X e t) (i : ∀ σ H Q, t' σ H Q → t σ H Q) : PT X e t' := ⟨fun pins s σ H Q I q => h.run pins s σ H Q I (i σ H Q q)⟩
theorem _root_.L2.PA.imp {X : Cx} {e : List Expr} {t t' : TA} (h : PA X e t) (i : ∀ σ H Q, t' σ H Q → t σ H Q) : PA X e t' := ⟨fun pos pins s σ H Q I q => h.run pos pins s σ H Q I (i σ H Q q)⟩
abbrev ev (cfg : Cfg) (n : Nat) := evE cfg (calls cfg n).1 (calls cfg n).2
abbrev evs (cfg : Cfg) (n : Nat) := evEs cfg (calls cfg n).1 (calls cfg n).2
section
variable {cfg : Cfg} {nm : Nm} {ca fa : Nat → Addr} {n : Nat} {X : Cx} {W : WX} {pe pa pb pc : Expr} {a b d : E} {pos : Pos}
variable (cfg ca n) in
def SndE (X : Cx) (W : WX) (e : E) (pe : Expr) : Prop := PE X pe (tE cfg X.K ca n e W) ∧ PT X pe (tT cfg X.K ca n e W)

theorem Cok.xo (c : Cok cfg nm ca fa n X W) : XO X := ⟨c.calm, by have := c.rm.un; omega, c.rm.gd⟩
theorem tT_tru {e : E} {σ : L2.St} {H : Hp} {Q : Bool → Hp → Prop} (h : tT cfg X.K ca n e W σ H Q) : tE cfg X.K ca n e W σ H fun x H' => ∃ k, TruV X.K x H' k ∧ Q k H' := by
  obtain ⟨ρ, as, L, hρ, r, q⟩ := h
  unfold evT at q
  refine ⟨ρ, as, L, hρ, r, q.bind.mono fun d L1 as1 H1 x1 r1 h1 z hz => ?_⟩
  split at h1
  · exact ⟨_, tru_of r1 hz (by assumption), h1.here r1⟩
  · exact h1.elim
theorem tT_bool {e : E} (hb : ∀ ρ L d L', ev cfg n e ρ L = .ok d L' → ∃ k, d = .bl k) {σ : L2.St} {H : Hp} {Q : Bool → Hp → Prop} (h : tT cfg X.K ca n e W σ H Q) : tE cfg X.K ca n e W σ H fun x H' => ∃ k, x = .bl k ∧ Q k H' := by
  obtain ⟨ρ, as, L, hρ, r, q⟩ := h
  unfold evT at q
  refine ⟨ρ, as, L, hρ, r, ?_⟩
  cases e1 : ev cfg n e ρ L with
  | bad => unfold ev at e1; rw [e1] at q; exact q.elim
  | exc c L1 => unfold ev at e1; rw [e1] at q ⊢; exact q
  | ok d L1 =>
    obtain ⟨k, rfl⟩ := hb _ _ _ _ e1
    unfold ev at e1
    rw [e1] at q ⊢
    exact fun as' H' x r' z hz => ⟨k, hz, q as' H' x r'⟩
theorem snd_plain (h : PE X pe (tE cfg X.K ca n a W)) (he : ∀ whole, PySem.isTrue pe X.env whole = (do let v ← whole; standAt pe.pos; holding [v] (truthy v))) : SndE cfg ca n X W a pe := ⟨h, (pt_truth h he).imp fun σ H Q q => tT_tru q⟩
theorem t_two {e a b : E} {m : LH → D → D → R D} (he : ∀ ρ L, ev cfg n e ρ L = (ev cfg n a ρ L).bind fun x L => (ev cfg n b ρ L).bind fun y L => m L x y) {σ : L2.St} {H : Hp} {Q : VK} (h : tE cfg X.K ca n e W σ H Q) :
    tOp (fun x y H Q => ∃ W', rd2 cfg.tab X.K ca m W' x y H Q) (tE cfg X.K ca n a W) (tE cfg X.K ca n b W) σ H Q := by
  obtain ⟨ρ, as, L, hρ, r, h⟩ := h
  have h := h.cast (he ρ L)
  refine ⟨ρ, as, L, hρ, r, h.bind.mono fun x L1 as1 H1 x1 r1 h1 z hz => ?_⟩
  refine ⟨ρ, as1, L1, hρ.ext r x1, r1, h1.bind.mono fun y L2 as2 H2 x2 r2 h2 u hu => ?_⟩
  exact ⟨_, as2, L2, x, y, r2, hz.ext r1 x2, hu, h2⟩
theorem t_one {e a : E} {m : LH → D → R D} (he : ∀ ρ L, ev cfg n e ρ L = (ev cfg n a ρ L).bind fun x L => m L x) {σ : L2.St} {H : Hp} {Q : VK} (h : tE cfg X.K ca n e W σ H Q) :
    tE cfg X.K ca n a W σ H fun x H1 => rd1 cfg.tab X.K ca m (fun c d H' => W c d σ H') x H1 Q := by
  obtain ⟨ρ, as, L, hρ, r, h⟩ := h
  have h := h.cast (he ρ L)
  exact ⟨ρ, as, L, hρ, r, h.bind.mono fun x L1 as1 H1 x1 r1 h1 z hz => ⟨as1, L1, x, r1, hz, h1⟩⟩
theorem t_args {e : E} {es : List E} {m : LH → List D → R D} (he : ∀ ρ L, ev cfg n e ρ L = (evs cfg n es ρ L).bind fun x L => m L x) {σ : L2.St} {H : Hp} {Q : VK} (h : tE cfg X.K ca n e W σ H Q) :
    tEs cfg X.K ca n es W σ H fun xs H1 => rds cfg.tab X.K ca m (fun c d H' => W c d σ H') xs H1 Q := by
  obtain ⟨ρ, as, L, hρ, r, h⟩ := h
  have h := h.cast (he ρ L)
  exact ⟨ρ, as, L, hρ, r, h.bind.mono fun x L1 as1 H1 x1 r1 h1 z hz => ⟨as1, L1, x, r1, hz, h1⟩⟩

/-! ### leaves -/
theorem s_var {i : Nat} {x : Str} (hi : X.N[i]? = some x) (hv : vis X.env.scope x = true) (hx : okName x = true) : SndE cfg ca n X W (.var i) (.Name x pos) := by
  refine snd_plain ((pe_var hi (vis_of hv) (okName_db hx) (okName_cd hx)).imp fun σ H Q h => ?_) fun _ => rfl
  obtain ⟨ρ, as, L, hρ, r, h⟩ := h
  simp only [evE] at h
  split at h
  · obtain ⟨v, e, q⟩ := hρ.2 i _ (by assumption)
    exact ⟨v, e, h.val r q⟩
  · exact h.elim
theorem s_non {j : Nat ⊕ Unit} {k} : SndE cfg ca n X W .non (.Constant .none k pos) :=
  snd_plain (pe_non.imp fun σ H Q ⟨ρ, as, L, hρ, r, h⟩ => h.val r rfl) fun _ => rfl
theorem s_bl {k b} : SndE cfg ca n X W (.bl b) (.Constant (.bool b) k pos) :=
  snd_plain (pe_bl.imp fun σ H Q ⟨ρ, as, L, hρ, r, h⟩ => h.val r rfl) fun _ => rfl
theorem s_int {k i} : SndE cfg ca n X W (.int i) (.Constant (.int i) k pos) :=
  snd_plain (pe_int.imp fun σ H Q ⟨ρ, as, L, hρ, r, h⟩ => h.val r rfl) fun _ => rfl
theorem s_str {k c} (hc : c < cfg.tab.length) : SndE cfg ca n X W (.str c) (.Constant (.str (tx cfg.tab c)) k pos) :=
  snd_plain (pe_str.imp fun σ H Q ⟨ρ, as, L, hρ, r, h⟩ => h.val r (by simp only [RepD]; exact ⟨hc, rfl⟩)) fun _ => rfl
theorem s_glo (c : Cok cfg nm ca fa n X W) {g : Nat} {x : Str} (hg : glb X.env.scope x = true) (hn : nm.gn g = some x) (hx : okName x = true) : SndE cfg ca n X W (.glo g) (.Name x pos) := by
  obtain ⟨u, v, hm, rv, hr⟩ := c.top.gn g x hn
  refine snd_plain ((pe_glob (glb_of hg) hm rv (okName_db hx)).imp fun σ H Q ⟨ρ, as, L, hρ, r, h⟩ => ?_) fun _ => rfl
  exact h.val r (hr as H)

/-! ### displays -/
theorem evs_len : ∀ (es : List E) (ρ : Env) (L : LH) (vs : List D) (L' : LH), evs cfg n es ρ L = .ok vs L' → vs.length = es.length
  | [], ρ, L, vs, L', h => by simp only [evs, evEs] at h; cases h; rfl
  | e :: es, ρ, L, vs, L', h => by
    simp only [evs, evEs] at h
    cases e1 : evE cfg (calls cfg n).1 (calls cfg n).2 e ρ L with
    | bad => rw [e1] at h; cases h
    | exc _ _ => rw [e1] at h; cases h
    | ok v L1 =>
      rw [e1] at h
      simp only [R.bind_ok] at h
      cases e2 : evEs cfg (calls cfg n).1 (calls cfg n).2 es ρ L1 with
      | bad => rw [e2] at h; cases h
      | exc _ _ => rw [e2] at h; cases h
      | ok ws L2 =>
        rw [e2] at h
        cases h
        rw [List.length_cons, List.length_cons, evs_len es ρ L1 ws _ e2]
theorem tEs_len {es : List E} {σ : L2.St} {H : Hp} {Q : List V → Hp → Prop} (h : tEs cfg X.K ca n es W σ H Q) : tEs cfg X.K ca n es W σ H fun xs H1 => xs.length = es.length ∧ Q xs H1 := by
  obtain ⟨ρ, as, L, hρ, r, h⟩ := h
  refine ⟨ρ, as, L, hρ, r, ?_⟩
  cases e1 : evs cfg n es ρ L with
  | bad => unfold evs at e1; rw [e1] at h; exact h.elim
  | exc c L1 => unfold evs at e1; rw [e1] at h ⊢; exact h
  | ok ds L1 =>
    have l := evs_len _ _ _ _ _ e1
    unfold evs at e1
    rw [e1] at h ⊢
    exact fun as' H' x r' xs hx => ⟨by rw [← hx.length, l], h as' H' x r' xs hx⟩
theorem s_tup {es : List E} {xs : List Expr} {k} (hl : es.length ≤ 1000) (ha : PA X xs (tEs cfg X.K ca n es W)) : SndE cfg ca n X W (.tup es) (.Tuple xs k pos) := by
  refine snd_plain ((pe_tup ha).imp fun σ H Q ⟨ρ, as, L, hρ, r, h⟩ => ?_) fun _ => rfl
  simp only [evE] at h
  have q : tEs cfg X.K ca n es W σ H fun xs H1 => ∀ p, H1 p = none → Q (.ref p) (upd H1 p (.tup xs)) :=
    ⟨ρ, as, L, hρ, r, h.bind.mono fun vs L1 as1 H1 x1 r1 h1 ys hy p hp => h1.tup r1 hy hp⟩
  obtain ⟨ρ, as, L, hρ, r, q⟩ := tEs_len q
  exact ⟨ρ, as, L, hρ, r, q.mono fun vs L1 as1 H1 x1 r1 h1 ys hy => ⟨by rw [(h1 ys hy).1, sizeLine_eq]; omega, (h1 ys hy).2⟩⟩
theorem s_lst {es : List E} {xs : List Expr} (hl : es.length ≤ 1000) (ha : PA X xs (tEs cfg X.K ca n es W)) : SndE cfg ca n X W (.lst es) (.List xs pos) := by
  refine snd_plain ((pe_lst ha).imp fun σ H Q ⟨ρ, as, L, hρ, r, h⟩ => ?_) fun _ => rfl
  simp only [evE] at h
  have q : tEs cfg X.K ca n es W σ H fun xs H1 => ∀ p, H1 p = none → Q (.ref p) (upd H1 p (.lst xs)) :=
    ⟨ρ, as, L, hρ, r, h.bind.mono fun vs L1 as1 H1 x1 r1 h1 ys hy p hp => h1.list r1 hy hp⟩
  obtain ⟨ρ, as, L, hρ, r, q⟩ := tEs_len q
  exact ⟨ρ, as, L, hρ, r, q.mono fun vs L1 as1 H1 x1 r1 h1 ys hy => ⟨by rw [(h1 ys hy).1, sizeLine_eq]; omega, (h1 ys hy).2⟩⟩

/-! ### operators -/
theorem s_bin {o : Op} {op : Operator} (ho : isOp o op = true) (ha : SndE cfg ca n X W a pa) (hb : SndE cfg ca n X W b pb) : SndE cfg ca n X W (.bin o a b) (.BinOp pa op pb pos) := by
  have e : op = opOf o := by cases o <;> cases op <;> first | rfl | (simp [isOp] at ho)
  subst e
  exact snd_plain ((pe_op (OpR.ex fun W => op_bin o) ha.1 hb.1).imp fun σ H Q h => t_two (fun ρ L => by simp only [ev, evE]) h) fun _ => rfl
theorem s_neg (ha : SndE cfg ca n X W a pa) : SndE cfg ca n X W (.neg a) (.UnaryOp .USub pa pos) := by
  refine snd_plain ((pe_un un_neg ha.1).imp fun σ H Q ⟨ρ, as, L, hρ, r, h⟩ => ?_) fun _ => rfl
  simp only [evE] at h
  refine ⟨ρ, as, L, hρ, r, h.bind.mono fun d L1 as1 H1 x1 r1 h1 z hz => ?_⟩
  split at h1
  · exact ⟨_, hz, h1.val r1 rfl⟩
  · exact h1.elim
theorem okB_bool {L L' : LH} {b : Option Bool} {d : D} (h : okB L b = .ok d L') : ∃ k, d = .bl k := by
  cases b with
  | none => cases h
  | some k => cases h; exact ⟨k, rfl⟩
theorem bind_inv {α β : Type} {m : R α} {f : α → LH → R β} {v : β} {L' : LH} (h : m.bind f = .ok v L') : ∃ u L1, m = .ok u L1 ∧ f u L1 = .ok v L' := by
  cases m with
  | ok u L1 => exact ⟨u, L1, rfl, h⟩
  | exc _ _ => cases h
  | bad => cases h
theorem s_cmp (c : Cok cfg nm ca fa n X W) {o : Cm} {op : CmpOp} (ho : isCm o op = true) (ht : tame pb = true) (ha : SndE cfg ca n X W a pa) (hb : SndE cfg ca n X W b pb) : SndE cfg ca n X W (.cmp o a b) (.Compare pa [op] [pb] pos) := by
  have e : op = cmOf o := by cases o <;> cases op <;> first | rfl | (simp [isCm] at ho)
  subst e
  have im : ∀ σ H Q, tE cfg X.K ca n (.cmp o a b) W σ H Q → tOp (fun x y H Q => ∃ W', rd2 cfg.tab X.K ca (fun L x y => okB L (cmpR o L x y)) W' x y H Q) (tE cfg X.K ca n a W) (tE cfg X.K ca n b W) σ H Q :=
    fun σ H Q h => t_two (fun ρ L => by simp only [ev, evE]) h
  have R := (OpR.ex (X := X) (f := compareOp (cmOf o)) (r := fun W => rd2 cfg.tab X.K ca (fun L x y => okB L (cmpR o L x y)) W) fun W => op_cmp c.top.T c.xo o)
  refine ⟨(pe_cmpR R ha.1 hb.1 (tame_behind ht)).imp im, (pt_cmpR R ha.1 hb.1 (tame_behind ht)).imp fun σ H Q h => ?_⟩
  refine im _ _ _ (tT_bool (fun ρ L d L' e => ?_) h)
  simp only [ev, evE] at e
  obtain ⟨_, _, _, e⟩ := bind_inv e
  obtain ⟨_, _, _, e⟩ := bind_inv e
  exact okB_bool e
theorem s_chn (c : Cok cfg nm ca fa n X W) {o o' : Cm} {op op' : CmpOp} (ho : isCm o op = true) (ho' : isCm o' op' = true) (ht : tame pc = true) (ha : SndE cfg ca n X W a pa) (hb : SndE cfg ca n X W b pb) (hd : SndE cfg ca n X W d pc) :
    SndE cfg ca n X W (.chn o o' a b d) (.Compare pa [op, op'] [pb, pc] pos) := by
  have e : op = cmOf o := by cases o <;> cases op <;> first | rfl | (simp [isCm] at ho)
  have e' : op' = cmOf o' := by cases o' <;> cases op' <;> first | rfl | (simp [isCm] at ho')
  subst e e'
  have hm : lastMarks [cmOf o, cmOf o'] [pb, pc] = false := by
    show behindInMarks (cmOf o') pc = false
    exact tame_behind ht
  let r2 := fun (o : Cm) (x y : V) (H : Hp) (Q : VK) => ∃ W', rd2 cfg.tab X.K ca (fun L x y => okB L (cmpR o L x y)) W' x y H Q
  have R := fun o => (OpR.ex (X := X) (f := compareOp (cmOf o)) (r := fun W => rd2 cfg.tab X.K ca (fun L x y => okB L (cmpR o L x y)) W) fun W => op_cmp c.top.T c.xo o)
  have im : ∀ σ H Q, tE cfg X.K ca n (.chn o o' a b d) W σ H Q → tChain (r2 o) (r2 o') (tE cfg X.K ca n a W) (tE cfg X.K ca n b W) (tE cfg X.K ca n d W) σ H Q := by
    intro σ H Q ⟨ρ, as, L, hρ, r, h⟩
    simp only [evE] at h
    refine ⟨ρ, as, L, hρ, r, h.bind.mono fun x L1 as1 H1 x1 r1 h1 z hz => ?_⟩
    refine ⟨ρ, as1, L1, hρ.ext r x1, r1, h1.bind.mono fun y L2 as2 H2 x2 r2 h2 u hu => ?_⟩
    have hρ2 := (hρ.ext r x1).ext r1 x2
    refine ⟨fun _ _ _ => True, as2, L2, x, y, r2, hz.ext r1 x2, hu, ?_⟩
    cases ek : cmpR o L2 x y with
    | none => rw [ek] at h2; exact h2.elim
    | some k =>
      rw [ek] at h2
      show SO _ _ _ (okB L2 (cmpR o L2 x y)) _ _ _ _
      rw [ek]
      intro as3 H3 x3 r3 w hw
      refine ⟨k, hw, ?_⟩
      cases k with
      | false => exact h2 as3 H3 x3 r3 _ rfl
      | true =>
        have h2 := SO.ext x3 h2
        exact ⟨ρ, as3, L2, hρ2.ext r2 x3, r3, h2.bind.mono fun p L4 as4 H4 x4 r4 h4 v hv => ⟨_, as4, L4, y, p, r4, (hu.ext r2 x3).ext r3 x4, hv, h4⟩⟩
  refine ⟨(pe_chain (R o) (R o') ha.1 hb.1 hd.1 hm).imp im, (pt_chain (R o) (R o') ha.1 hb.1 hd.1 hm).imp fun σ H Q h => ?_⟩
  refine im _ _ _ (tT_bool (fun ρ L d L' e => ?_) h)
  simp only [ev, evE] at e
  obtain ⟨_, _, _, e⟩ := bind_inv e
  obtain ⟨_, _, _, e⟩ := bind_inv e
  split at e
  · obtain ⟨_, _, _, e⟩ := bind_inv e
    exact okB_bool e
  · cases e; exact ⟨_, rfl⟩
  · cases e
def isNon : D → Bool
  | .non => true
  | _ => false
theorem rep_non {K : PySem.W.Frag} {as : List Addr} {H : Hp} {x : D} {v : V} (h : RepD cfg.tab K as H x v) : decide (v = .non) = isNon x := by
  cases x with
  | non => rw [show v = .non from h]; rfl
  | bl b => rw [show v = .bl b from h]; rfl
  | int b => rw [show v = .int b from h]; rfl
  | str b => simp only [RepD] at h; rw [h.2]; rfl
  | txt b => rw [show v = .str b from h]; rfl
  | tup b => simp only [RepD] at h; obtain ⟨_, _, rfl, _⟩ := h; rfl
  | ref b => simp only [RepD] at h; obtain ⟨_, _, rfl⟩ := h; rfl
  | scr b => simp only [RepD] at h; obtain ⟨_, rfl, _⟩ := h; rfl
  | fn b => simp only [RepD] at h; rw [h]; rfl
theorem isn_im {ng : Bool} {σ : L2.St} {H : Hp} {Q : VK} (h : tE cfg X.K ca n (.isn ng a) W σ H Q) : tE cfg X.K ca n a W σ H fun x H1 => Q (.bl (decide (x = .non) != ng)) H1 := by
  obtain ⟨ρ, as, L, hρ, r, h⟩ := h
  simp only [evE] at h
  refine ⟨ρ, as, L, hρ, r, h.bind.mono fun d L1 as1 H1 x1 r1 h1 z hz => ?_⟩
  refine h1.val r1 ?_
  simp only [RepD]
  rw [rep_non hz]
  cases d <;> cases ng <;> rfl
theorem isn_bool {ng : Bool} {ρ : Env} {L L' : LH} {d : D} (e : ev cfg n (.isn ng a) ρ L = .ok d L') : ∃ k, d = .bl k := by
  simp only [ev, evE] at e
  obtain ⟨_, _, _, e⟩ := bind_inv e
  cases e
  exact ⟨_, rfl⟩
theorem s_isN {k p} (ha : SndE cfg ca n X W a pa) : SndE cfg ca n X W (.isn false a) (.Compare pa [.Is] [.Constant .none k p] pos) := by
  have im : ∀ σ H Q, tE cfg X.K ca n (.isn false a) W σ H Q → tIsN (tE cfg X.K ca n a W) σ H Q := fun σ H Q h => by
    have q := isn_im h
    simp only [Bool.bne_false] at q
    exact q
  exact ⟨(pe_cmp (pc_isN ha.1)).imp im, (pt_cmp (pc_isN ha.1)).imp fun σ H Q h => im _ _ _ (tT_bool (fun _ _ _ _ e => isn_bool e) h)⟩
theorem s_notN {k p} (ha : SndE cfg ca n X W a pa) : SndE cfg ca n X W (.isn true a) (.Compare pa [.IsNot] [.Constant .none k p] pos) := by
  have im : ∀ σ H Q, tE cfg X.K ca n (.isn true a) W σ H Q → tNotN (tE cfg X.K ca n a W) σ H Q := fun σ H Q h => by
    have q := isn_im h
    simp only [Bool.bne_true] at q
    exact q
  exact ⟨(pe_cmp (pc_notN ha.1)).imp im, (pt_cmp (pc_notN ha.1)).imp fun σ H Q h => im _ _ _ (tT_bool (fun _ _ _ _ e => isn_bool e) h)⟩
theorem pc_isB {a : Expr} {ta : TE} {b : Bool} {j} {p : Pos} (ha : PE X a ta) : PC X .Is a (.Constant (.bool b) j p) (fun σ H Q => ta σ H fun x H1 => ∃ c, x = .bl c ∧ Q (.bl (c == b)) H1) := by
  refine ⟨fun pins s σ H Q I h => ?_⟩
  refine thn (ha.run pins s σ H _ I h) fun v s1 ⟨x, H1, I1, r1, c, e, q1⟩ => ?_
  subst e
  cases r1
  exact PyProof.Rows.Constant_bool (PyProof.Rows.is_bool ⟨.bl _, H1, I1, rfl, q1⟩)
theorem s_isB {k p bb} (ha : SndE cfg ca n X W a pa) : SndE cfg ca n X W (.isb false bb a) (.Compare pa [.Is] [.Constant (.bool bb) k p] pos) := by
  have im : ∀ σ H Q, tE cfg X.K ca n (.isb false bb a) W σ H Q → tE cfg X.K ca n a W σ H fun x H1 => ∃ c, x = .bl c ∧ Q (.bl (c == bb)) H1 := by
    intro σ H Q ⟨ρ, as, L, hρ, r, h⟩
    simp only [evE] at h
    refine ⟨ρ, as, L, hρ, r, h.bind.mono fun d L1 as1 H1 x1 r1 h1 z hz => ?_⟩
    split at h1
    · exact ⟨_, hz, h1.val r1 (by simp only [RepD]; rename_i b0; cases b0 <;> cases bb <;> rfl)⟩
    · exact h1.elim
  refine ⟨(pe_cmp (pc_isB ha.1)).imp im, (pt_cmp (pc_isB ha.1)).imp fun σ H Q h => im _ _ _ (tT_bool (fun _ _ _ _ e => ?_) h)⟩
  simp only [ev, evE] at e
  obtain ⟨_, _, _, e⟩ := bind_inv e
  split at e
  · cases e; exact ⟨_, rfl⟩
  · cases e
theorem pc_notB {a : Expr} {ta : TE} {b : Bool} {j} {p : Pos} (ha : PE X a ta) : PC X .IsNot a (.Constant (.bool b) j p) (fun σ H Q => ta σ H fun x H1 => ∃ c, x = .bl c ∧ Q (.bl (c != b)) H1) := by
  refine ⟨fun pins s σ H Q I h => ?_⟩
  refine thn (ha.run pins s σ H _ I h) fun v s1 ⟨x, H1, I1, r1, c, e, q1⟩ => ?_
  subst e
  cases r1
  exact PyProof.Rows.Constant_bool (PyProof.Rows.isnot_bool ⟨.bl _, H1, I1, rfl, q1⟩)
theorem s_notB {k p bb} (ha : SndE cfg ca n X W a pa) : SndE cfg ca n X W (.isb true bb a) (.Compare pa [.IsNot] [.Constant (.bool bb) k p] pos) := by
  have im : ∀ σ H Q, tE cfg X.K ca n (.isb true bb a) W σ H Q → tE cfg X.K ca n a W σ H fun x H1 => ∃ c, x = .bl c ∧ Q (.bl (c != bb)) H1 := by
    intro σ H Q ⟨ρ, as, L, hρ, r, h⟩
    simp only [evE] at h
    refine ⟨ρ, as, L, hρ, r, h.bind.mono fun d L1 as1 H1 x1 r1 h1 z hz => ?_⟩
    split at h1
    · exact ⟨_, hz, h1.val r1 (by simp only [RepD]; rename_i b0; cases b0 <;> cases bb <;> rfl)⟩
    · exact h1.elim
  refine ⟨(pe_cmp (pc_notB ha.1)).imp im, (pt_cmp (pc_notB ha.1)).imp fun σ H Q h => im _ _ _ (tT_bool (fun _ _ _ _ e => ?_) h)⟩
  simp only [ev, evE] at e
  obtain ⟨_, _, _, e⟩ := bind_inv e
  split at e
  · cases e; exact ⟨_, rfl⟩
  · cases e
end
end Ev

end
section
set_option linter.all false
set_option maxRecDepth 100000
/-! Ev: and, or, not; attributes, items, slices; calls. -/
namespace Ev
open PySem PySem.Spec L2
section
variable {cfg : Cfg} {nm : Nm} {ca fa : Nat → Addr} {n : Nat} {X : Cx} {W : WX} {pe pa pb pc : Expr} {a b d : E} {pos : Pos}
abbrev evt (cfg : Cfg) (n : Nat) := evT cfg (calls cfg n).1 (calls cfg n).2
theorem evt_def (e : E) (ρ : Env) (L : LH) : evt cfg n e ρ L = (ev cfg n e ρ L).bind fun x L => match isTrue L x with
  | some b => .ok b L
  | none => .bad := rfl
theorem evt_not (ρ : Env) (L : LH) : evt cfg n (.not a) ρ L = (evt cfg n a ρ L).bind fun b L => .ok (!b) L := by
  simp only [evt_def, ev, evE]
  cases evE cfg (calls cfg n).1 (calls cfg n).2 a ρ L with
  | bad => rfl
  | exc c L => rfl
  | ok x L =>
    simp only [R.bind_ok]
    cases isTrue L x <;> rfl
theorem evt_and (ρ : Env) (L : LH) : evt cfg n (.and a b) ρ L = (evt cfg n a ρ L).bind fun k L => if k then evt cfg n b ρ L else .ok false L := by
  simp only [evt_def, ev, evE]
  cases evE cfg (calls cfg n).1 (calls cfg n).2 a ρ L with
  | bad => rfl
  | exc c L => rfl
  | ok x L =>
    simp only [R.bind_ok]
    cases e : isTrue L x with
    | none => rfl
    | some k =>
      cases k with
      | true => rfl
      | false => simp only [R.bind_ok, e]; rfl
theorem evt_or (ρ : Env) (L : LH) : evt cfg n (.or a b) ρ L = (evt cfg n a ρ L).bind fun k L => if k then .ok true L else evt cfg n b ρ L := by
  simp only [evt_def, ev, evE]
  cases evE cfg (calls cfg n).1 (calls cfg n).2 a ρ L with
  | bad => rfl
  | exc c L => rfl
  | ok x L =>
    simp only [R.bind_ok]
    cases e : isTrue L x with
    | none => rfl
    | some k =>
      cases k with
      | false => rfl
      | true => simp only [R.bind_ok, e]; rfl
theorem ev_ite (ρ : Env) (L : LH) : ev cfg n (.ite d a b) ρ L = (evt cfg n d ρ L).bind fun k L => if k then ev cfg n a ρ L else ev cfg n b ρ L := by
  simp only [evt_def, ev, evE]
  cases evE cfg (calls cfg n).1 (calls cfg n).2 d ρ L with
  | bad => rfl
  | exc c L => rfl
  | ok x L =>
    simp only [R.bind_ok]
    cases e : isTrue L x with
    | none => rfl
    | some k => cases k <;> rfl
theorem evt_ite (ρ : Env) (L : LH) : evt cfg n (.ite d a b) ρ L = (evt cfg n d ρ L).bind fun k L => if k then evt cfg n a ρ L else evt cfg n b ρ L := by
  rw [evt_def, ev_ite, R.bind_assoc]
  congr 1
  funext k L
  cases k <;> rfl
theorem s_not (ha : SndE cfg ca n X W a pa) : SndE cfg ca n X W (.not a) (.UnaryOp .Not pa pos) := by
  refine ⟨(pe_notT ha.1).imp fun σ H Q ⟨ρ, as, L, hρ, r, h⟩ => ?_, (pt_not ha.2).imp fun σ H Q ⟨ρ, as, L, hρ, r, h⟩ => ?_⟩
  · simp only [evE] at h
    refine ⟨ρ, as, L, hρ, r, h.bind.mono fun x L1 as1 H1 x1 r1 h1 z hz => ?_⟩
    cases e : isTrue L1 x with
    | none => rw [e] at h1; exact h1.elim
    | some k => rw [e] at h1; exact ⟨k, tru_of r1 hz e, h1.val r1 rfl⟩
  · have h := h.cast (evt_not (a := a) ρ L)
    exact ⟨ρ, as, L, hρ, r, h.bind.mono fun k L1 as1 H1 x1 r1 h1 => h1.here r1⟩
theorem pw_bool {X : Cx} {op : BoolOp} {es : List Expr} {t : TT} (h : PT X (.BoolOp op es pos) t) : PW X (.BoolOp op es pos) t := ⟨fun whole pins s σ H Q I q => by
  have := h.run pins s σ H Q I q
  rw [PySem.isTrue] at this ⊢
  exact this⟩
theorem pw_nil {X : Cx} {op : BoolOp} {a : Expr} {t : TT} (h : PT X a t) : PW X (.BoolOp op [a] pos) t := by
  cases op with
  | And => exact pw_and1 h
  | Or => exact pw_or1 h
theorem rest_snd {op : BoolOp} {y : Expr} {r : List Expr} (h : SndE cfg ca n X W b (restB op pos y r)) : PE X (.BoolOp op (y :: r) pos) (tE cfg X.K ca n b W) ∧ PW X (.BoolOp op (y :: r) pos) (tT cfg X.K ca n b W) := by
  cases r with
  | nil => exact ⟨pe_one h.1, pw_nil h.2⟩
  | cons z r => exact ⟨h.1, pw_bool h.2⟩
theorem s_and {y : Expr} {r : List Expr} (ha : SndE cfg ca n X W a pa) (hb : SndE cfg ca n X W b (restB .And pos y r)) : SndE cfg ca n X W (.and a b) (.BoolOp .And (pa :: y :: r) pos) := by
  obtain ⟨hb1, hb2⟩ := rest_snd hb
  refine ⟨(pe_andT ha.1 hb1).imp fun σ H Q ⟨ρ, as, L, hρ, r, h⟩ => ?_, (pw_and ha.2 hb2).pt.imp fun σ H Q ⟨ρ, as, L, hρ, r, h⟩ => ?_⟩
  · simp only [evE] at h
    refine ⟨ρ, as, L, hρ, r, h.bind.mono fun x L1 as1 H1 x1 r1 h1 z hz => ?_⟩
    cases e : isTrue L1 x with
    | none => rw [e] at h1; exact h1.elim
    | some k =>
      rw [e] at h1
      refine ⟨k, tru_of r1 hz e, ?_⟩
      cases k with
      | true => rw [if_pos rfl]; exact ⟨ρ, as1, L1, hρ.ext r x1, r1, h1⟩
      | false => rw [if_neg Bool.false_ne_true]; exact h1.val r1 hz
  · have h := h.cast (evt_and (a := a) (b := b) ρ L)
    refine ⟨ρ, as, L, hρ, r, h.bind.mono fun k L1 as1 H1 x1 r1 h1 => ?_⟩
    cases k with
    | true => rw [if_pos rfl] at h1 ⊢; exact ⟨ρ, as1, L1, hρ.ext r x1, r1, h1⟩
    | false => rw [if_neg Bool.false_ne_true] at h1 ⊢; exact h1.here r1
theorem s_or {y : Expr} {r : List Expr} (ha : SndE cfg ca n X W a pa) (hb : SndE cfg ca n X W b (restB .Or pos y r)) : SndE cfg ca n X W (.or a b) (.BoolOp .Or (pa :: y :: r) pos) := by
  obtain ⟨hb1, hb2⟩ := rest_snd hb
  refine ⟨(pe_orT ha.1 hb1).imp fun σ H Q ⟨ρ, as, L, hρ, r, h⟩ => ?_, (pw_or ha.2 hb2).pt.imp fun σ H Q ⟨ρ, as, L, hρ, r, h⟩ => ?_⟩
  · simp only [evE] at h
    refine ⟨ρ, as, L, hρ, r, h.bind.mono fun x L1 as1 H1 x1 r1 h1 z hz => ?_⟩
    cases e : isTrue L1 x with
    | none => rw [e] at h1; exact h1.elim
    | some k =>
      rw [e] at h1
      refine ⟨k, tru_of r1 hz e, ?_⟩
      cases k with
      | true => rw [if_pos rfl]; exact h1.val r1 hz
      | false => rw [if_neg Bool.false_ne_true]; exact ⟨ρ, as1, L1, hρ.ext r x1, r1, h1⟩
  · have h := h.cast (evt_or (a := a) (b := b) ρ L)
    refine ⟨ρ, as, L, hρ, r, h.bind.mono fun k L1 as1 H1 x1 r1 h1 => ?_⟩
    cases k with
    | true => rw [if_pos rfl] at h1 ⊢; exact h1.here r1
    | false => rw [if_neg Bool.false_ne_true] at h1 ⊢; exact ⟨ρ, as1, L1, hρ.ext r x1, r1, h1⟩
theorem s_ite (hd : SndE cfg ca n X W d pc) (ha : SndE cfg ca n X W a pa) (hb : SndE cfg ca n X W b pb) : SndE cfg ca n X W (.ite d a b) (.IfExp pc pa pb pos) := by
  refine ⟨(pe_ifExp hd.2 ha.1 hb.1).imp fun σ H Q ⟨ρ, as, L, hρ, r, h⟩ => ?_, ⟨fun pins s σ H Q I h => ?_⟩⟩
  · have h := h.cast (ev_ite (d := d) (a := a) (b := b) ρ L)
    refine ⟨ρ, as, L, hρ, r, h.bind.mono fun k L1 as1 H1 x1 r1 h1 => ?_⟩
    cases k with
    | true => rw [if_pos rfl] at h1 ⊢; exact ⟨ρ, as1, L1, hρ.ext r x1, r1, h1⟩
    | false => rw [if_neg Bool.false_ne_true] at h1 ⊢; exact ⟨ρ, as1, L1, hρ.ext r x1, r1, h1⟩
  · obtain ⟨ρ, as, L, hρ, r, h⟩ := h
    have h := h.cast (evt_ite (d := d) (a := a) (b := b) ρ L)
    refine PyProof.Rows.isTrue_IfExp (thn (hd.2.run pins s σ H (fun k H1 => if k = true then tT cfg X.K ca n a W σ H1 Q else tT cfg X.K ca n b W σ H1 Q) I ⟨ρ, as, L, hρ, r, h.bind.mono fun k L1 as1 H1 x1 r1 h1 => ?_⟩) fun k s1 ⟨H1, I1, q1⟩ => ?_)
    · cases k with
      | true => rw [if_pos rfl] at h1 ⊢; exact ⟨ρ, as1, L1, hρ.ext r x1, r1, h1⟩
      | false => rw [if_neg Bool.false_ne_true] at h1 ⊢; exact ⟨ρ, as1, L1, hρ.ext r x1, r1, h1⟩
    · cases k with
      | true => rw [if_pos rfl] at q1 ⊢; exact ha.2.run pins s1 σ H1 Q I1 q1
      | false => rw [if_neg Bool.false_ne_true] at q1 ⊢; exact hb.2.run pins s1 σ H1 Q I1 q1

/-! ### attributes, items, slices -/
theorem s_fld (c : Cok cfg nm ca fa n X W) {f : Nat} (ht : tame pa = true) (ha : SndE cfg ca n X W a pa) : SndE cfg ca n X W (.fld a f) (.Attribute pa (tx cfg.tab f) pos) := by
  refine snd_plain ((pe_fld ha.1 (tame_base ht)).imp fun σ H Q ⟨ρ, as, L, hρ, r, h⟩ => ?_) fun _ => rfl
  simp only [evE] at h
  refine ⟨ρ, as, L, hρ, r, h.bind.mono fun x L1 as1 H1 x1 r1 h1 z hz => ?_⟩
  cases e : fldR cfg L1 x f with
  | none => rw [e] at h1; exact h1.elim
  | some d =>
    rw [e] at h1
    obtain ⟨p, C, dx, gs, v, h2, h3, h4, h5, h6, h7⟩ := fld_any c.top.T c.top.C r1 hz e
    exact ⟨p, C, dx, gs, v, h2, h3, h4, h5, h6, h1.val r1 h7⟩
theorem s_idx (c : Cok cfg nm ca fa n X W) (ht : tame pb = true) (ha : SndE cfg ca n X W a pa) (hb : SndE cfg ca n X W b pb) : SndE cfg ca n X W (.idx a b) (.Subscript pa pb pos) := by
  have R := (IxR.ex (X := X) (r := fun W => rd2 cfg.tab X.K ca (fun L a b => okD L (idxR L a b)) W) fun W => ix_any c.xo c.top.T)
  exact snd_plain ((pe_ix R ha.1 hb.1 (tame_plain ht)).imp fun σ H Q h => t_two (fun ρ L => by simp only [ev, evE]) h) fun _ => rfl
theorem s_sl (fr : Bool) (ha : SndE cfg ca n X W a pa) (hb : SndE cfg ca n X W b pb) {e : E} (he : ∀ ρ L, ev cfg n e ρ L = (ev cfg n a ρ L).bind fun x L => (ev cfg n b ρ L).bind fun y L => sliR L fr x y) {σ : L2.St} {H : Hp} {Q : VK} (h : tE cfg X.K ca n e W σ H Q) :
    tE cfg X.K ca n a W σ H fun x H1 => tE cfg X.K ca n b W σ H1 fun y H2 => ∃ i, y = .int i ∧ ∃ W', rdSl cfg.tab X.K ca fr W' x (partsOf fr i).1 (partsOf fr i).2 H2 Q := by
  obtain ⟨ρ, as, L, hρ, r, h⟩ := h
  have h := h.cast (he ρ L)
  refine ⟨ρ, as, L, hρ, r, h.bind.mono fun x L1 as1 H1 x1 r1 h1 z hz => ?_⟩
  refine ⟨ρ, as1, L1, hρ.ext r x1, r1, h1.bind.mono fun y L2 as2 H2 x2 r2 h2 u hu => ?_⟩
  cases y with
  | int i => exact ⟨i, hu, _, as2, L2, x, i, r2, hz.ext r1 x2, rfl, h2⟩
  | _ => exact h2.elim
theorem s_slf {p2 : Pos} (ha : SndE cfg ca n X W a pa) (hb : SndE cfg ca n X W b pb) : SndE cfg ca n X W (.slf a b) (.Subscript pa (.Slice (some pb) none none p2) pos) := by
  have R := (SlR.ex (X := X) (r := fun W => rdSl cfg.tab X.K ca true W) fun W => sl_any true)
  refine snd_plain ((pe_slice R ha.1 (po_some hb.1) po_none).imp fun σ H Q h => ?_) fun _ => rfl
  have q := s_sl true ha hb (fun ρ L => by simp only [ev, evE]) h
  exact q
theorem s_slt {p2 : Pos} (ha : SndE cfg ca n X W a pa) (hb : SndE cfg ca n X W b pb) : SndE cfg ca n X W (.slt a b) (.Subscript pa (.Slice none (some pb) none p2) pos) := by
  have R := (SlR.ex (X := X) (r := fun W => rdSl cfg.tab X.K ca false W) fun W => sl_any false)
  refine snd_plain ((pe_slice R ha.1 po_none (po_some hb.1)).imp fun σ H Q h => ?_) fun _ => rfl
  have q := s_sl false ha hb (fun ρ L => by simp only [ev, evE]) h
  exact q
theorem s_rev {k p1 p2 p3} (ha : SndE cfg ca n X W a pa) : SndE cfg ca n X W (.rev a) (.Subscript pa (.Slice none none (some (.UnaryOp .USub (.Constant (.int 1) k p1) p2)) p3) pos) := by
  refine snd_plain ((pe_revL ha.1).imp fun σ H Q ⟨ρ, as, L, hρ, r, h⟩ => ?_) fun _ => rfl
  simp only [evE] at h
  refine ⟨ρ, as, L, hρ, r, h.bind.mono fun x L1 as1 H1 x1 r1 h1 z hz => ?_⟩
  split at h1
  · obtain ⟨p, ep, rfl⟩ := lst_ref r1 hz
    split at h1
    · obtain ⟨vs, g1, g2⟩ := r1.lst (by assumption) ep
      exact ⟨p, vs, rfl, .of g1, fun q hq => h1.list r1 g2.rev hq⟩
    · exact h1.elim
  · exact h1.elim

/-! ### calls -/
theorem tEs_nil {σ : L2.St} {H : Hp} {Q : List V → Hp → Prop} (h : tEs cfg X.K ca n [] W σ H Q) : Q [] H := by
  obtain ⟨ρ, as, L, hρ, r, h⟩ := h
  simp only [evEs] at h
  exact h.here r [] .nil
/-- a call of a value known by its name -/
theorem args_run {E' : Value → Shared → Prop} {u : Value} {first : List Value} {es : List E} {args : List Expr} {pins : List (Addr × Obj)} {σ : L2.St} {H : Hp} {s : Shared} {Q : List V → Hp → Prop} {Q' : Value → Shared → Prop} (hl : es.length = args.length) (hs : noStars args = true) (ha : PA X args (tEs cfg X.K ca n es W)) (hk : PySem.W.keepIn X.K u = true)
    (I : L2.Inv X pins σ H s) (h : tEs cfg X.K ca n es W σ H Q) (q : ∀ us vs H1 s1, L2.Inv X pins σ H1 s1 → Vals vs us → Q vs H1 → wpAny (model X.prog X.w) X.A (call u (first ++ us)) Q' X.xe s1) :
    wpAny (model X.prog X.w) X.A (callWith pos u first (backTo pos (starEach args X.env)) (backToKw pos (keywordEach [] X.env))) Q' X.xe s := by
  cases args with
  | nil =>
    cases es with
    | nil => exact PySem.W.callWith_K0 I.kIn hk (q [] [] H s I .nil (tEs_nil h))
    | cons _ _ => cases hl
  | cons e rest =>
    unfold noStars at hs
    rw [List.all_cons, Bool.and_eq_true] at hs
    exact PySem.W.callWith_K (h₀ := X.base) I.ok.mod.kin hk (thn (ha.run pos pins s σ H _ I h) fun us s1 ⟨vs, H1, I1, r, q1⟩ => ⟨I1.kIn, q us vs H1 s1 I1 r q1⟩) (star_cons hs.1) (stars_none hs.2)
theorem s_call (c : Cok cfg nm ca fa n X W) {f : Nat} {x : Str} {np : Pos} {es : List E} {args : List Expr} (hg : glb X.env.scope x = true) (hn : nm.fn f = some x) (hx : okName x = true) (hl : es.length = args.length) (hs : noStars args = true) (ha : PA X args (tEs cfg X.K ca n es W)) :
    SndE cfg ca n X W (.call f es) (.Call (.Name x np) args [] pos) := by
  refine snd_plain ⟨fun pins s σ H Q I h => ?_⟩ fun _ => rfl
  have h := t_args (es := es) (m := fun L ds => run cfg n f ds L) (fun ρ L => by simp only [ev, evs, evE, run]) h
  obtain ⟨hm, hk⟩ := c.top.fn f x hn
  refine wpAny_Call_Name_kw (ld_glob I (glb_of hg) hm ?_ (okName_db hx))
  exact args_run (E' := X.xe) hl hs ha hk I h fun us vs H1 s1 I1 r q => run_call c I1 r q
theorem s_callv (c : Cok cfg nm ca fa n X W) {i : Nat} {x : Str} {np : Pos} {es : List E} {args : List Expr} (hi : X.N[i]? = some x) (hv : vis X.env.scope x = true) (hx : okName x = true) (hl : es.length = args.length) (hs : noStars args = true) (ha : PA X args (tEs cfg X.K ca n es W)) :
    SndE cfg ca n X W (.callv i es) (.Call (.Name x np) args [] pos) := by
  refine snd_plain ⟨fun pins s σ H Q I h => ?_⟩ fun _ => rfl
  obtain ⟨ρ, as, L, hρ, r, h⟩ := h
  simp only [evE] at h
  split at h
  · rename_i k ek
    obtain ⟨v, e, q⟩ := hρ.2 i _ ek
    refine wpAny_Call_Name_kw (thn ((pe_var hi (vis_of hv) (okName_db hx) (okName_cd hx)).run pins s σ H (fun z H1 => z = v ∧ H1 = H) I ⟨v, e, rfl, rfl⟩) fun u s1 ⟨z, H1, I1, rz, e1, e2⟩ => ?_)
    subst e1 e2
    cases ef : cfg.fnm k with
    | none => rw [ef] at h; exact h.elim
    | some f =>
      obtain ⟨hga, hk⟩ := c.top.fv k f ef
      have eu : u = .ref (fa f) := by
        have q : z = .ref (He.ga X.K (cfg.tab.getD k ⟨#[]⟩)) := q
        subst q
        rw [← hga]; exact rz
      subst eu
      rw [ef] at h
      have h1 : tEs cfg X.K ca n es W σ H1 fun vs H2 => rds cfg.tab X.K ca (fun L ds => run cfg n f ds L) (fun c d H' => W c d σ H') vs H2 Q :=
        ⟨ρ, as, L, hρ, r, h.bind.mono fun ds L2 as2 H2 x2 r2 h2 vs hv => ⟨as2, L2, ds, r2, hv, h2⟩⟩
      exact args_run (E' := X.xe) hl hs ha hk I1 h1 fun us vs H2 s2 I2 r q => run_call c I2 r q
  · exact h.elim
theorem s_mk (c : Cok cfg nm ca fa n X W) {k : Nat} {x : Str} {np : Pos} {es : List E} {args : List Expr} (hg : glb X.env.scope x = true) (hn : nm.cn k = some x) (hx : okName x = true) (hl : es.length = args.length) (hs : noStars args = true) (ha : PA X args (tEs cfg X.K ca n es W)) :
    SndE cfg ca n X W (.mk k es) (.Call (.Name x np) args [] pos) := by
  refine snd_plain ⟨fun pins s σ H Q I h => ?_⟩ fun _ => rfl
  obtain ⟨f, ei, hm, M⟩ := c.top.cn k x hn
  have h := t_args (es := es) (m := fun L vs => ((calls cfg n).2 f (.ref L.length :: vs) (L ++ [.ins k []])).bind fun v L' => match v with
      | .non => .ok (.ref L.length) L'
      | _ => .bad) (fun ρ L => by simp only [ev, evs, evE, ei] <;> rfl) h
  refine wpAny_Call_Name_kw (ld_glob I (glb_of hg) hm ?_ (okName_db hx))
  refine args_run (E' := X.xe) hl hs ha M.kp I h fun us vs H1 s1 I1 r q => ?_
  obtain ⟨as, L, ds, rp, hd, q⟩ := q
  cases n with
  | zero => exact q.elim
  | succ m =>
    have q : SO cfg.tab X.K ca ((run cfg m f (.ref L.length :: ds) (L ++ [.ins k []])).bind fun v L' => match v with
      | .non => .ok (.ref L.length) L'
      | _ => .bad) (fun c d H' => W c d σ H') as H1 (K1 cfg.tab X.K Q) := q
    refine make_call c M I1 r fun p dx hp hdx ne => ?_
    have x1 := ext_fresh (as := as) (.own p) hdx
    have hp' : upd H1 dx (.own p) p = none := by rw [upd_ne (Ne.symm ne)]; exact hp
    have x2 := ext_alloc (as := as) (.ins (ca k) dx []) hp'
    have rp1 := rp.fresh (.own p) hdx
    have rp2 := rp1.alloc (u := .ins (ca k) dx []) (o := .ins k []) hp' ⟨dx, [], upd_same, rfl⟩
    have x := x1.trans x2
    refine ⟨as ++ [p], L ++ [.ins k []], .ref L.length :: ds, rp2, .cons ?_ (RepDs.ext rp x _ _ hd), (SO.ext x q).bind.mono fun v L2 as2 H2 x3 r2 h2 z hz => ?_⟩
    · simp only [RepD]; exact ⟨p, by rw [← rp.len]; simp, rfl⟩
    · cases v with
      | non =>
        refine ⟨hz, h2.val r2 ?_⟩
        simp only [RepD]
        exact ⟨p, x3.at (by rw [← rp.len]; simp), rfl⟩
      | _ => exact h2.elim
theorem s_mth (c : Cok cfg nm ca fa n X W) {m : Nat} {o : E} {po : Expr} {ap : Pos} {es : List E} {args : List Expr} (ht : tame po = true) (hp : (ap.endLine == pos.line) = true) (h30 : args.length < 30) (hl : es.length = args.length) (hs : noStars args = true) (ho : SndE cfg ca n X W o po)
    (ha : PA X args (tEs cfg X.K ca n es W)) : SndE cfg ca n X W (.mth o m es) (.Call (.Attribute po (tx cfg.tab m) ap) args [] pos) := by
  refine snd_plain ⟨fun pins s σ H Q I h => ?_⟩ fun _ => rfl
  obtain ⟨ρ, as, L, hρ, r, h⟩ := h
  simp only [evE] at h
  refine PySem.W.methodCall_KW (thn (ho.1.run pins s σ H (fun z H1 => ∃ as1 L1 d, Rp cfg.tab X.K ca as1 L1 H1 ∧ RepE cfg.tab X.K as1 H1 ρ σ ∧ RepD cfg.tab X.K as1 H1 d z ∧ SO cfg.tab X.K ca (match mthR cfg L1 d m with
    | some f => (evs cfg n es ρ L1).bind fun vs L => (calls cfg n).1 f (d :: vs) L
    | none => .bad) (fun c d H' => W c d σ H') as1 H1 (K1 cfg.tab X.K Q)) I ⟨ρ, as, L, hρ, r, h.bind.mono fun d L1 as1 H1 x1 r1 h1 z hz => ⟨as1, L1, d, r1, hρ.ext r x1, hz, h1⟩⟩) fun u s1 ⟨z, H1, I1, rx, as1, L1, d, r1, hρ1, hz, h1⟩ => ?_) (meth_tree ht hs h30 hp)
  cases d with
  | ref k =>
    obtain ⟨p, ep, rfl⟩ := lst_ref r1 hz
    obtain rfl : u = Value.ref p := rx
    simp only [mthR] at h1
    cases eo : L1[k]? with
    | none => simp only [eo] at h1; exact h1.elim
    | some ob =>
      cases ob with
      | ins cl fs =>
        simp only [eo] at h1
        cases em : cfg.mth cl m with
        | none => simp only [em] at h1; exact h1.elim
        | some f =>
          cases eg : getK m fs with
          | some _ => simp only [em, eg] at h1; exact h1.elim
          | none =>
            simp only [em, eg] at h1
            obtain ⟨hmt, hcls, hmeth⟩ := c.top.mt cl m f em
            obtain ⟨dx, gs, g1, g2⟩ := r1.ins eo ep
            have g3 := RepFs.val c.top.T hmt g2
            rw [eg] at g3
            refine getmeth_ok I1 g1 hcls hmeth g3 ?_
            have h1 : tEs cfg X.K ca n es W σ H1 fun vs H2 => rds cfg.tab X.K ca (fun L ds => run cfg n f ds L) (fun c d H' => W c d σ H') (.ref p :: vs) H2 Q :=
              ⟨ρ, as1, L1, hρ1, r1, h1.bind.mono fun ds L2 as2 H2 x2 r2 h2 vs hv => ⟨as2, L2, .ref k :: ds, r2, .cons (hz.ext r1 x2) hv, h2⟩⟩
            exact args_run (E' := X.xe) hl hs ha hmeth.kp I1 h1 fun us vs H2 s2 I2 r q => run_call (vs := .ref p :: vs) c I2 (.cons rfl r) q
      | _ => simp only [eo] at h1; exact h1.elim
  | _ => exact h1.elim
theorem boot_bf (b : Bf) : bootBuiltins (bfName b) = some (bfV b) := by cases b <;> decide +kernel
theorem bf_in (b : Bf) : bfName b ∈ bltNames := by cases b <;> decide +kernel
theorem bf_plain (b : Bf) : bfName b ≠ "__name__" ∧ (bfName b == ("__debug__" : Str)) = false := by cases b <;> decide +kernel
theorem s_bf (c : Cok cfg nm ca fa n X W) {b : Bf} {np : Pos} {es : List E} {e : Expr} {args : List Expr} (hg : glb X.env.scope (bfName b) = true) (hs : noStars (e :: args) = true) (ha : PA X (e :: args) (tEs cfg X.K ca n es W)) :
    SndE cfg ca n X W (.bf b es) (.Call (.Name (bfName b) np) (e :: args) [] pos) := by
  have R := (CallR.ex (X := X) (f := bfV b) (r := fun W => rds cfg.tab X.K ca (bfR cfg.tab b) W) fun W => call_bf c.top.T c.xo b)
  unfold noStars at hs
  rw [List.all_cons, Bool.and_eq_true] at hs
  have hm := c.top.bl _ (bf_in b)
  have pe : PE X (.Call (.Name (bfName b) np) (e :: args) [] pos) (tCB (fun xs H Q => ∃ W, rds cfg.tab X.K ca (bfR cfg.tab b) W xs H Q) (tEs cfg X.K ca n es W)) := by
    have hv := boot_bf b
    obtain ⟨p1, p2⟩ := bf_plain b
    cases b with
    | int => exact pe_callTy R (glb_of hg) hm hv ha p1 p2 (star_cons hs.1) (stars_none hs.2)
    | tuple => exact pe_callTy R (glb_of hg) hm hv ha p1 p2 (star_cons hs.1) (stars_none hs.2)
    | list => exact pe_callTy R (glb_of hg) hm hv ha p1 p2 (star_cons hs.1) (stars_none hs.2)
    | _ => exact pe_callB R (glb_of hg) hm hv ha p1 p2 (star_cons hs.1) (stars_none hs.2)
  refine snd_plain (pe.imp fun σ H Q h => ?_) fun _ => rfl
  obtain ⟨ρ, as, L, hρ, r, h⟩ := t_args (es := es) (m := fun L vs => bfR cfg.tab b L vs) (fun ρ L => by simp only [ev, evs, evE]) h
  exact ⟨ρ, as, L, hρ, r, h.mono fun ds L1 as1 H1 x1 r1 h1 xs hx => ⟨_, h1 xs hx⟩⟩
theorem s_isi (c : Cok cfg nm ca fa n X W) {t : Ty} {np yp : Pos} (hg : glb X.env.scope "isinstance" = true) (hy : glb X.env.scope (tyStr t) = true) (hs : noStar pa = true) (ha : SndE cfg ca n X W a pa) :
    SndE cfg ca n X W (.isi a t) (.Call (.Name "isinstance" np) [pa, .Name (tyStr t) yp] [] pos) := by
  have hm := c.top.bl "isinstance" (by decide +kernel)
  have hv : bootBuiltins (tyStr t) = some (.type (tyName t)) := by cases t <;> decide +kernel
  have hm2 := c.top.bl (tyStr t) (by cases t <;> decide +kernel)
  have h2 : PA X [pa, .Name (tyStr t) yp] (tCons (tE cfg X.K ca n a W) (tCons (tC (.ty (tyName t))) tNil)) :=
    pa_cons ha.1 (pa_cons (pe_bltn (glb_of hy) hm2 hv rfl (by cases t <;> decide +kernel) (by cases t <;> decide +kernel)) pa_nil (star_cons rfl)) (star_cons hs)
  refine snd_plain ((pe_callB call_isi (glb_of hg) hm (by decide +kernel) h2 (by decide) (by decide) (star_cons hs) (stars_none rfl)).imp fun σ H Q ⟨ρ, as, L, hρ, r, h⟩ => ?_) fun _ => rfl
  simp only [evE] at h
  refine ⟨ρ, as, L, hρ, r, h.bind.mono fun d L1 as1 H1 x1 r1 h1 z hz => ?_⟩
  obtain ⟨k, ek, q⟩ := h1.okB r1
  exact isi_any r1 hz ek q
theorem bm_facts (m : Bm) : PlainAttrs (bmTy m) ∧ Slot (bmTy m) (bmName m) (bmId m) ∧ typeOf (.builtin (bmId m)) = pure (.type "method_descriptor") := by
  cases m with
  | append => exact ⟨F.plainAttrs_list, F.slot_list_append, F.type_list_append⟩
  | count => exact ⟨F.plainAttrs_list, F.slot_list_count, F.type_list_count⟩
  | index => exact ⟨F.plainAttrs_list, F.slot_list_index, F.type_list_index⟩
  | get => exact ⟨F.plainAttrs_dict, F.slot_dict_get, F.type_dict_get⟩
theorem s_bm (c : Cok cfg nm ca fa n X W) {m : Bm} {o : E} {po e : Expr} {ap : Pos} {es : List E} {args : List Expr} (ht : tame po = true) (hp : (ap.endLine == pos.line) = true) (h30 : (e :: args).length < 30) (hs : noStars (e :: args) = true) (ho : SndE cfg ca n X W o po)
    (ha : PA X (e :: args) (tEs cfg X.K ca n es W)) : SndE cfg ca n X W (.bm m o es) (.Call (.Attribute po (bmName m) ap) (e :: args) [] pos) := by
  obtain ⟨f1, f2, f3⟩ := bm_facts m
  have R := (MtR.ex (X := X) (id := bmId m) (r := fun W => rdm cfg.tab X.K ca m W) fun W => call_bm c.top.T c.xo m)
  have hs' := hs
  unfold noStars at hs'
  rw [List.all_cons, Bool.and_eq_true] at hs'
  refine snd_plain ((pe_bm f1 f2 f3 R ho.1 ha (tame_base ht) (few_args hs h30) hp (star_cons hs'.1) (stars_none hs'.2)).imp fun σ H Q ⟨ρ, as, L, hρ, r, h⟩ => ?_) fun _ => rfl
  simp only [evE] at h
  refine ⟨ρ, as, L, hρ, r, h.bind.mono fun d L1 as1 H1 x1 r1 h1 z hz => ?_⟩
  cases eb : bmOk m L1 d with
  | false => rw [eb] at h1; exact h1.elim
  | true =>
    rw [eb, if_pos rfl] at h1
    cases d with
    | ref k =>
      simp only [bmOk] at eb
      cases eo : L1[k]? with
      | none => rw [eo] at eb; cases m <;> cases eb
      | some ob =>
        refine ⟨bm_ty (a := .ref k) r1 hz eo ?_, ρ, as1, L1, hρ.ext r x1, r1, h1.bind.mono fun ds L2 as2 H2 x2 r2 h2 xs hx => ⟨_, as2, L2, .ref k, ds, r2, hz.ext r1 x2, hx, h2⟩⟩
        rw [eo] at eb
        cases m <;> cases ob <;> first | exact True.intro | (simp at eb)
    | _ => cases eb
end
end Ev

end
section
set_option linter.all false
set_option maxRecDepth 100000
/-! Ev: dict displays; what is walked; list comprehensions. -/
namespace Ev
open PySem PySem.Spec L2
section
variable {cfg : Cfg} {nm : Nm} {ca fa : Nat → Addr} {n : Nat} {X : Cx} {W : WX} {pe pa pb pc : Expr} {a b d : E} {pos : Pos}

/-! ### {k: v, ..} -/
theorem RepKs.merge {tab : List Str} {K : PySem.W.Frag} {as : List Addr} {H : Hp} (T : TabOk tab) : ∀ {ks : List Nat} {vs : List D} {xs : List V} {kvs : List (Ky × D)} {A : List (Key × V)}, RepKs tab K as H kvs A → (kvs.map (·.1) ++ ks.map Ky.s).Nodup → (∀ c ∈ ks, c < tab.length) → ks.length = vs.length → RepDs tab K as H vs xs →
    RepKs tab K as H (kvs ++ (ks.map Ky.s).zip vs) (mergeK A ((ks.map fun c => (Sum.inr (tx tab c) : Key)).zip xs))
  | [], vs, xs, kvs, A, h, _, _, _, _ => by simpa [mergeK] using h
  | c :: ks, [], xs, kvs, A, h, _, _, e, _ => by cases e
  | c :: ks, v :: vs, xs, kvs, A, h, nd, hk, e, hv => by
    obtain ⟨x, xs, rfl, hx, hv⟩ := hv
    have hc := hk c List.mem_cons_self
    have nd0 : (kvs.map (·.1)).Nodup := (List.nodup_append.mp nd).1
    have out : (kvs.any fun kv => decide (kv.1 = Ky.s c)) = false := by
      rw [List.any_eq_false]
      intro kv m z
      have z : kv.1 = Ky.s c := of_decide_eq_true z
      exact (List.nodup_append.mp nd).2.2 kv.1 (List.mem_map_of_mem m) (Ky.s c) (by simp) z
    have p := h.put (k := .s c) (d := v) (v := x) T hc hx nd0
    rw [putK_there _ _ _ out] at p
    have q := RepKs.merge T (ks := ks) (vs := vs) (xs := xs) p (by simpa using nd) (fun c' m => hk c' (List.mem_cons_of_mem _ m)) (by simpa using e) hv
    simp only [List.map_cons, List.zip_cons_cons, List.append_assoc, List.cons_append, List.nil_append] at q ⊢
    exact q
theorem nodup_s : ∀ {ks : List Nat}, ks.Nodup → (ks.map Ky.s).Nodup
  | [], _ => List.nodup_nil
  | c :: ks, h => by
    rw [List.nodup_cons] at h
    rw [List.map_cons, List.nodup_cons]
    refine ⟨fun m => ?_, nodup_s h.2⟩
    obtain ⟨c', m', e⟩ := List.mem_map.mp m
    injection e with e
    subst e
    exact h.1 m'
theorem zip_keys {tab : List Str} : ∀ (ks : List Nat) (xs : List V), (ks.map fun c => V.str (tx tab c)).zip xs = ((ks.map fun c => (Sum.inr (tx tab c) : Key)).zip xs).map fun kv => (kV kv.1, kv.2)
  | [], xs => rfl
  | c :: ks, [] => rfl
  | c :: ks, x :: xs => by
    simp only [List.map_cons, List.zip_cons_cons]
    rw [zip_keys ks xs]
    rfl
/-- the readings of a display's pairs -/
def trsOf (cfg : Cfg) (K : PySem.W.Frag) (ca : Nat → Addr) (n : Nat) (W : WX) : List Nat → List E → List (TE × TE)
  | c :: ks, e :: es => (tC (.str (tx cfg.tab c)), tE cfg K ca n e W) :: trsOf cfg K ca n W ks es
  | _, _ => []
theorem dic_pairs : ∀ {ks : List Nat} {es : List E} {σ : L2.St} {H : Hp} {Q : List (V × V) → Hp → Prop}, ks.length = es.length → tEs cfg X.K ca n es W σ H (fun xs H1 => Q ((ks.map fun c => V.str (tx cfg.tab c)).zip xs) H1) → tPairs (trsOf cfg X.K ca n W ks es) σ H Q
  | [], [], σ, H, Q, _, h => tEs_nil h
  | [], _ :: _, _, _, _, e, _ => by cases e
  | _ :: _, [], _, _, _, e, _ => by cases e
  | c :: ks, e :: es, σ, H, Q, l, ⟨ρ, as, L, hρ, r, h⟩ => by
    show tPairs ((tC (.str (tx cfg.tab c)), tE cfg X.K ca n e W) :: trsOf cfg X.K ca n W ks es) σ H Q
    simp only [evEs] at h
    refine ⟨ρ, as, L, hρ, r, h.bind.mono fun v L1 as1 H1 x1 r1 h1 z hz => ?_⟩
    refine dic_pairs (by simpa using l) ⟨ρ, as1, L1, hρ.ext r x1, r1, h1.bind.mono fun vs L2 as2 H2 x2 r2 h2 xs hx => ?_⟩
    exact h2.here r2 (z :: xs) (.cons (hz.ext r1 x2) hx)
theorem chkKs_len {tab : List Str} : ∀ {ks : List Nat} {keys : List (Option Expr)}, chkKs tab ks keys = true → keys.all (·.isSome) = true ∧ (∀ c ∈ ks, c < tab.length) ∧ ks.Nodup
  | [], keys, h => by
    simp only [chkKs] at h
    rw [List.isEmpty_iff.mp h]
    exact ⟨rfl, fun c m => by simp at m, List.nodup_nil⟩
  | c :: ks, keys, h => by
    unfold chkKs at h
    split at h
    · simp only [Bool.and_eq_true, decide_eq_true_eq, Bool.not_eq_true'] at h
      obtain ⟨⟨⟨h1, h2⟩, h3⟩, h4⟩ := h
      obtain ⟨g1, g2, g3⟩ := chkKs_len h4
      refine ⟨by rw [List.all_cons, g1]; rfl, fun c' m => ?_, ?_⟩
      · rcases List.mem_cons.mp m with rfl | m
        · exact h1
        · exact g2 c' m
      · rw [List.nodup_cons]
        exact ⟨fun m => (by rw [List.contains_iff_mem.mpr m] at h3; cases h3), g3⟩
    · cases h
theorem s_dic (c : Cok cfg nm ca fa n X W) {ks : List Nat} {es : List E} {keys : List (Option Expr)} {vals : List Expr} (hk : chkKs cfg.tab ks keys = true) (hl : keys.length = vals.length) (hl2 : ks.length = es.length) (h15 : ks.length ≤ 15) (hkl : keys.length = ks.length) (hp : PPs X pos keys vals (trsOf cfg X.K ca n W ks es)) :
    SndE cfg ca n X W (.dic ks es) (.Dict keys vals pos) := by
  obtain ⟨g1, g2, g3⟩ := chkKs_len hk
  have main : ∀ σ H Q, tE cfg X.K ca n (.dic ks es) W σ H Q → ∀ p, H p = none → tEs cfg X.K ca n es W σ (upd H p (.dK [])) fun xs H2 => H2 p = some (.dK []) ∧ Q (.ref p) (upd H2 p (.dK (mergeK [] ((ks.map fun c => (Sum.inr (tx cfg.tab c) : Key)).zip xs)))) := by
    intro σ H Q ⟨ρ, as, L, hρ, r, h⟩ p hp
    simp only [evE] at h
    have x0 := ext_fresh (as := as) (.dK []) hp
    refine ⟨ρ, as, L, hρ.ext r x0, r.fresh _ hp, ?_⟩
    cases e1 : evEs cfg (calls cfg n).1 (calls cfg n).2 es ρ L with
    | bad => rw [e1] at h; exact h.elim
    | exc cl L1 => rw [e1] at h; exact fun as' H' x r' => h as' H' (x0.trans x) r'
    | ok vs L1 =>
      rw [e1] at h
      simp only [R.bind_ok] at h
      have l := evs_len (cfg := cfg) (n := n) es ρ L vs L1 e1
      rw [if_pos (hl2.trans l.symm)] at h
      intro as' H' x r' xs hx
      have np : p ∉ as := fun m => r.there m hp
      have hp' : H' p = some (.dK []) := x.keep p _ upd_same np
      have np' : p ∉ as' := fun m => by have z := x.new p m np; rw [upd_same] at z; cases z
      have lo : Loose (H' p) := .inr ⟨_, hp'⟩
      refine ⟨hp', ?_⟩
      have ag := agr_side (u := .dK (mergeK [] ((ks.map fun c => (Sum.inr (tx cfg.tab c) : Key)).zip xs))) lo (List.prefix_append as' [p])
      have ad := r'.adopt (u := .dK (mergeK [] ((ks.map fun c => (Sum.inr (tx cfg.tab c) : Key)).zip xs))) (o := .dic ((ks.map Ky.s).zip vs)) np' lo ⟨_, upd_same, ?_, ?_⟩
      · refine h (as' ++ [p]) _ (((x0.trans x).side hp).adopt hp) ad _ ?_
        simp only [RepD]
        exact ⟨p, by rw [← r'.len]; simp, rfl⟩
      · have q := RepKs.merge (kvs := []) (A := []) c.top.T (show RepKs cfg.tab X.K (as' ++ [p]) _ [] [] from rfl) (by simpa using nodup_s g3) g2 (hl2.trans l.symm) (RepDs.agr ag _ _ hx)
        simpa using q
      · have e : ((ks.map Ky.s).zip vs).map (·.1) = ks.map Ky.s := List.map_fst_zip (by simp; omega)
        rw [e]
        exact nodup_s g3
  cases keys with
  | nil =>
    cases vals with
    | cons _ _ => cases hl
    | nil =>
      cases ks with
      | cons _ _ => cases hkl
      | nil =>
        cases es with
        | cons _ _ => cases hl2
        | nil =>
          refine snd_plain (pe_dnewK.imp fun σ H Q h p hp => ?_) fun _ => rfl
          have q := tEs_nil (main σ H Q h p hp)
          have q := q.2
          rw [upd_upd] at q
          exact q
  | cons k0 keys =>
    refine snd_plain ((pe_disp hp g1 hl (by simp) (by rw [hkl]; exact h15)).imp fun σ H Q h p hp => ?_) fun _ => rfl
    refine dic_pairs hl2 ?_
    obtain ⟨ρ, as, L, hρ, r, q⟩ := tEs_len (main σ H Q h p hp)
    refine ⟨ρ, as, L, hρ, r, q.mono fun vs L1 as1 H1 x1 r1 h1 xs hx => ?_⟩
    obtain ⟨lx, h2, h3⟩ := h1 xs hx
    refine ⟨h2, (ks.map fun c => (Sum.inr (tx cfg.tab c) : Key)).zip xs, ?_, ?_, h3⟩
    · exact zip_keys ks xs
    · simp; omega
end
end Ev

end
section
set_option linter.all false
set_option maxRecDepth 100000
/-! Ev: what is walked. -/
namespace Ev
open PySem PySem.Spec L2
section
variable {tab : List Str} {K : PySem.W.Frag} {ca : Nat → Addr} {as as' as2 : List Addr} {L L' : LH} {H H' H2 : Hp}
theorem iv_tup {a : Addr} {ds : List D} {vs : List V} (r : Rp tab K ca as L H) (hq : SqT K H a vs) (hd : RepDs tab K as H ds vs) : IvOk tab K ca as H (.items ds) (Itt K a) := by
  intro i as' L' H' o x r' e le
  simp only [at_, Option.some.injEq] at e
  have q := sqT_agr x hq
  have hd' := hd.agr x
  refine ⟨fun z => ⟨vs, q, ?_⟩, fun d z => ?_⟩
  · rw [z] at e
    have := List.getElem?_eq_none_iff.mp e
    rw [← hd'.length]; exact this
  · rw [z] at e
    obtain ⟨v, hv, rv⟩ := hd'.get e
    refine ⟨⟨vs, v, q, hv⟩, fun y H2 hy => ?_⟩
    obtain ⟨e2, hy⟩ := hy
    subst e2
    have hx := hy vs q
    rw [hv] at hx
    cases hx
    exact ⟨.refl, r', rv⟩
theorem iv_lst {a : Addr} {n : Nat} (ea : as[n]? = some a) : IvOk tab K ca as H (.lst n) (Itl K a) := by
  intro i as' L' H' o x r' e le
  simp only [at_] at e
  split at e
  · rename_i xs e1
    cases e
    obtain ⟨vs, h1, h2⟩ := r'.lst e1 (x.at ea)
    refine ⟨fun z => ⟨vs, .of h1, ?_⟩, fun d z => ?_⟩
    · rw [← h2.length]; exact List.getElem?_eq_none_iff.mp z
    · obtain ⟨v, hv, rv⟩ := h2.get z
      refine ⟨⟨vs, v, .of h1, hv⟩, fun y H2 hy => ?_⟩
      obtain ⟨e2, hy⟩ := hy
      subst e2
      have hx := hy vs (.of h1)
      rw [hv] at hx
      cases hx
      exact ⟨.refl, r', rv⟩
  · cases e
theorem iv_scr {a : Addr} {ns : List Int} (r : Rp tab K ca as L H) (hs : ScrAt K H a ns) : IvOk tab K ca as H (.items (ns.map D.int)) (Itl K a) := by
  have sq : ∀ {H' : Hp}, ScrAt K H' a ns → SqL K H' a (ns.map V.int) := by
    rintro H' (⟨o, h⟩ | ⟨o, its, n, h1, h2, h3, h4, h5, h6⟩)
    · exact .inl (.inr ⟨o, h⟩)
    · exact .inr ⟨o, its, n, h1, h2, h3, h4, h5, h6⟩
  intro i as' L' H' o x r' e le
  simp only [at_, Option.some.injEq] at e
  have q := sq (scr_agr x hs)
  refine ⟨fun z => ⟨_, q, ?_⟩, fun d z => ?_⟩
  · rw [z] at e
    have := List.getElem?_eq_none_iff.mp e
    simpa using this
  · rw [z] at e
    rw [List.getElem?_map] at e
    obtain ⟨k, ek, rfl⟩ := Option.map_eq_some_iff.mp e
    have hv : (ns.map V.int)[i]? = some (V.int k) := by rw [List.getElem?_map, ek]; rfl
    refine ⟨⟨_, _, q, hv⟩, fun y H2 hy => ?_⟩
    obtain ⟨e2, hy⟩ := hy
    subst e2
    have hx := hy _ q
    rw [hv] at hx
    cases hx
    exact ⟨.refl, r', rfl⟩
theorem iv_rng {lo : Int} {n : Nat} : IvOk tab K ca as H (.items (rangeD lo n)) (Itr lo n) := by
  intro i as' L' H' o x r' e le
  simp only [at_, Option.some.injEq] at e
  refine ⟨fun z => ?_, fun d z => ?_⟩
  · rw [z] at e
    have := List.getElem?_eq_none_iff.mp e
    show n ≤ i
    simpa [rangeD] using this
  · rw [z] at e
    unfold rangeD at e
    rw [List.getElem?_map] at e
    obtain ⟨k, ek, rfl⟩ := Option.map_eq_some_iff.mp e
    obtain ⟨hk, ek⟩ := List.getElem?_eq_some_iff.mp ek
    rw [List.getElem_range] at ek
    subst ek
    refine ⟨(by show i < n; simpa using hk), fun y H2 hy => ?_⟩
    obtain ⟨e2, hy⟩ := hy
    subst e2 hy
    exact ⟨.refl, r', rfl⟩
theorem pairs_get : ∀ (xs ys : List D) (i : Nat), (pairs xs ys)[i]? = (match xs[i]?, ys[i]? with
    | some x, some y => some (.tup [x, y])
    | _, _ => none)
  | [], ys, i => by simp [pairs]
  | x :: xs, [], i => by simp [pairs]
  | x :: xs, y :: ys, 0 => by simp [pairs]
  | x :: xs, y :: ys, i + 1 => by simpa [pairs] using pairs_get xs ys i
theorem nums_get : ∀ (k : Nat) (xs : List D) (i : Nat), (nums k xs)[i]? = (xs[i]?).map fun x => .tup [.int ((k + i : Nat) : Int), x]
  | k, [], i => by simp [nums]
  | k, x :: xs, 0 => by simp [nums]
  | k, x :: xs, i + 1 => by
    have := nums_get (k + 1) xs i
    simp only [nums, List.getElem?_cons_succ]
    rw [this]
    congr 1
    funext y
    rw [show k + 1 + i = k + (i + 1) by omega]
theorem pair_new {T : Addr} {d e : D} {x y : V} (r : Rp tab K ca as L H) (hT : H T = none) (h1 : RepD tab K as H d x) (h2 : RepD tab K as H e y) :
    Ext as H as (upd H T (.tup [x, y])) ∧ Rp tab K ca as L (upd H T (.tup [x, y])) ∧ RepD tab K as (upd H T (.tup [x, y])) (.tup [d, e]) (.ref T) := by
  have ex := ext_fresh (as := as) (.tup [x, y]) hT
  refine ⟨ex, r.fresh _ hT, ?_⟩
  simp only [RepD]
  exact ⟨T, [x, y], rfl, .inl (.inl upd_same), .cons (h1.ext r ex) (.cons (h2.ext r ex) .nil)⟩
theorem iv_zip {a b : Addr} {xs ys : List D} {vs us : List V} (r : Rp tab K ca as L H) (hq : SqT K H a vs) (hd : RepDs tab K as H xs vs) (hq2 : SqT K H b us) (hd2 : RepDs tab K as H ys us) : IvOk tab K ca as H (.items (pairs xs ys)) (RZ.ItzT K a b) := by
  intro i as' L' H' o x r' e le
  simp only [at_, Option.some.injEq] at e
  have q := sqT_agr x hq
  have hd' := hd.agr x
  have q2 := sqT_agr x hq2
  have hd2' := hd2.agr x
  rw [pairs_get] at e
  refine ⟨fun z => ⟨vs, us, q, q2, ?_⟩, fun d z => ?_⟩
  · rw [z] at e
    cases e1 : xs[i]? with
    | none => exact .inl (by rw [← hd'.length]; exact List.getElem?_eq_none_iff.mp e1)
    | some x1 =>
      cases e2 : ys[i]? with
      | none => exact .inr (by rw [← hd2'.length]; exact List.getElem?_eq_none_iff.mp e2)
      | some y1 => rw [e1, e2] at e; cases e
  · rw [z] at e
    cases e1 : xs[i]? with
    | none => rw [e1] at e; cases e
    | some x1 =>
      cases e2 : ys[i]? with
      | none => rw [e1, e2] at e; cases e
      | some y1 =>
        rw [e1, e2] at e
        cases e
        obtain ⟨v, hv, rv⟩ := hd'.get e1
        obtain ⟨u, hu, ru⟩ := hd2'.get e2
        refine ⟨⟨vs, us, v, u, q, q2, hv, hu⟩, fun y H2 hy => ?_⟩
        obtain ⟨T, x2, y2, rfl, hT, rfl, k1, k2⟩ := hy
        have z1 := k1 vs q
        have z2 := k2 us q2
        rw [hv] at z1; rw [hu] at z2
        cases z1; cases z2
        exact pair_new r' hT rv ru
theorem iv_enm {a : Addr} {xs : List D} {vs : List V} (r : Rp tab K ca as L H) (hq : SqT K H a vs) (hd : RepDs tab K as H xs vs) : IvOk tab K ca as H (.items (nums 0 xs)) (IteT K a) := by
  intro i as' L' H' o x r' e le
  simp only [at_, Option.some.injEq] at e
  have q := sqT_agr x hq
  have hd' := hd.agr x
  rw [nums_get] at e
  cases e1 : xs[i]? with
  | none =>
    rw [e1] at e
    cases e
    refine ⟨fun _ => ?_, fun d z => (by cases z)⟩
    have h1 := hd'.length
    have h2 := List.getElem?_eq_none_iff.mp e1
    have le : i ≤ (nums 0 xs).length := le
    have h3 : ∀ k (xs : List D), (nums k xs).length = xs.length := by
      intro k xs
      induction xs generalizing k with
      | nil => rfl
      | cons y ys ih => simp only [nums, List.length_cons, ih]
    rw [h3] at le
    exact ⟨vs, q, by omega⟩
  | some x1 =>
    rw [e1] at e
    cases e
    obtain ⟨v, hv, rv⟩ := hd'.get e1
    refine ⟨fun z => (by cases z), fun d z => ?_⟩
    cases z
    refine ⟨⟨vs, v, q, hv⟩, fun y H2 hy => ?_⟩
    obtain ⟨T, x2, rfl, hT, rfl, k1⟩ := hy
    have z1 := k1 vs q
    rw [hv] at z1
    cases z1
    have p := pair_new (d := .int ((0 + i : Nat) : Int)) (x := .int ((0 + i : Nat) : Int)) r' hT rfl rv
    rw [show (0 + i : Nat) = i by omega] at p ⊢
    exact p
end
end Ev

end
section
set_option linter.all false
set_option maxRecDepth 100000
/-! Ev: sources and list comprehensions keep what the evaluator says. -/
namespace Ev
open PySem PySem.Spec L2
section
variable {cfg : Cfg} {nm : Nm} {ca fa : Nat → Addr} {n : Nat} {X : Cx} {W : WX} {pe pa pb pc : Expr} {a b d : E} {pos : Pos}
def ivR (s : Src) (L : LH) (vs : List D) : R IV := match srcR s L vs with
  | some iv => .ok iv L
  | none => .bad
variable (cfg ca n) in
def tSrc (X : Cx) (W : WX) (s : Src) (es : List E) : TI := fun σ H R => ∃ ρ as L, RepE cfg.tab X.K as H ρ σ ∧ Rp cfg.tab X.K ca as L H ∧
  SO cfg.tab X.K ca ((evs cfg n es ρ L).bind fun vs L => ivR s L vs) (fun c d H' => W c d σ H') as H fun iv L' as' H' => ∀ J, IvOk cfg.tab X.K ca as' H' iv J → R J H'
theorem ivR_ok {tab : List Str} {K : PySem.W.Frag} {W : XK} {s : Src} {L : LH} {vs : List D} {as : List Addr} {H : Hp} {Φ : IV → LH → List Addr → Hp → Prop} (r : Rp tab K ca as L H) (h : SO tab K ca (ivR s L vs) W as H Φ) : ∃ iv, srcR s L vs = some iv ∧ Φ iv L as H := by
  unfold ivR at h
  cases e : srcR s L vs with
  | none => rw [e] at h; exact h.elim
  | some iv => rw [e] at h; exact ⟨iv, rfl, h.here r⟩
theorem src_args {s : Src} {es : List E} {σ : L2.St} {H : Hp} {R : It → Hp → Prop} (h : tSrc cfg ca n X W s es σ H R) :
    tEs cfg X.K ca n es W σ H fun xs H1 => ∃ as L vs iv, Rp cfg.tab X.K ca as L H1 ∧ RepDs cfg.tab X.K as H1 vs xs ∧ srcR s L vs = some iv ∧ ∀ J, IvOk cfg.tab X.K ca as H1 iv J → R J H1 := by
  obtain ⟨ρ, as, L, hρ, r, h⟩ := h
  refine ⟨ρ, as, L, hρ, r, h.bind.mono fun vs L1 as1 H1 x1 r1 h1 xs hx => ?_⟩
  obtain ⟨iv, e, q⟩ := ivR_ok r1 h1
  exact ⟨as1, L1, vs, iv, r1, hx, e, q⟩
theorem src_one {s : Src} {σ : L2.St} {H : Hp} {R : It → Hp → Prop} (h : tSrc cfg ca n X W s [a] σ H R) :
    tE cfg X.K ca n a W σ H fun x H1 => ∃ as L v iv, Rp cfg.tab X.K ca as L H1 ∧ RepD cfg.tab X.K as H1 v x ∧ srcR s L [v] = some iv ∧ ∀ J, IvOk cfg.tab X.K ca as H1 iv J → R J H1 := by
  obtain ⟨ρ, as, L, hρ, r, h⟩ := h
  simp only [evs, evEs] at h
  rw [Ev.R.bind_assoc] at h
  refine ⟨ρ, as, L, hρ, r, h.bind.mono fun v L1 as1 H1 x1 r1 h1 x hx => ?_⟩
  obtain ⟨iv, e, q⟩ := ivR_ok r1 h1
  exact ⟨as1, L1, v, iv, r1, hx, e, q⟩
/-- over a list or a tuple, whichever is there -/
def iAny (K : PySem.W.Frag) (tl : TE) : TI := fun σ H R => tl σ H fun x H1 => ∃ a, x = .ref a ∧ (((∃ xs, SqL K H1 a xs) ∧ R (Itl K a) H1) ∨ ((∃ xs, SqT K H1 a xs) ∧ R (Itt K a) H1))
theorem pi_any {tg l : Expr} {tl : TE} (hl : PE X l tl) : PI X tg l (iAny X.K tl) := ⟨fun pins s σ H R I h => thn (hl.run pins s σ H _ I h) fun v s1 ⟨x, H1, I1, r1, a, ex, q⟩ => by
  subst ex
  obtain rfl : v = Value.ref a := r1
  have fp : ∀ b ∈ [s1.heap.objs.size], FpOk X pins H1 b := fun b hb => by
    rw [List.mem_singleton.mp hb]
    exact I1.fpOk (Nat.le_refl _) (I1.hok.fresh (Nat.le_refl _))
  rcases q with ⟨⟨xs, hq⟩, q⟩ | ⟨⟨xs, hq⟩, q⟩
  · obtain ⟨its, rv, p, _⟩ := I1.list hq
    exact wpAny_pyIter_list p.isList ⟨_, [_], _, _, H1, rfl, I1.kept (t' := s1.toks) fun _ _ e => Heap.get?_push_of_some _ e, turn_list a _, ⟨_, Heap.get?_push_size _ rfl, rfl, rfl⟩, fp, q⟩
  · obtain ⟨its, rv, p, _⟩ := I1.tuple hq
    exact wpAny_pyIter_tuple (show s1.heap.IsTuple a its.toArray from p) ⟨_, [_], _, _, H1, rfl, I1.kept (t' := s1.toks) fun _ _ e => Heap.get?_push_of_some _ e, turn_tuple a _, ⟨_, Heap.get?_push_size _ rfl, rfl, rfl⟩, fp, q⟩⟩
theorem src_seq {σ : L2.St} {H : Hp} {R : It → Hp → Prop} (h : tSrc cfg ca n X W .seq [a] σ H R) : iAny X.K (tE cfg X.K ca n a W) σ H R := by
  obtain ⟨ρ, as, L, hρ, r, h⟩ := src_one h
  refine ⟨ρ, as, L, hρ, r, h.mono fun v L1 as1 H1 x1 r1 h1 x hx => ?_⟩
  obtain ⟨as2, L2, v2, iv, r2, hx2, e, q⟩ := h1 x hx
  cases v2 with
  | tup ds =>
    cases e
    simp only [RepD] at hx2
    obtain ⟨p, vs, rfl, g1, g2⟩ := hx2
    exact ⟨p, rfl, .inr ⟨⟨vs, g1⟩, q _ (iv_tup r2 g1 g2)⟩⟩
  | ref k =>
    obtain ⟨p, ep, rfl⟩ := lst_ref r2 hx2
    simp only [srcR] at e
    split at e
    · cases e
      obtain ⟨vs, g1, _⟩ := r2.lst (by assumption) ep
      exact ⟨p, rfl, .inl ⟨⟨vs, .of g1⟩, q _ (iv_lst ep)⟩⟩
    · cases e
  | scr ns =>
    cases e
    simp only [RepD] at hx2
    obtain ⟨p, rfl, g⟩ := hx2
    refine ⟨p, rfl, .inl ⟨⟨ns.map V.int, ?_⟩, q _ (iv_scr r2 g)⟩⟩
    rcases g with ⟨o, g⟩ | ⟨o, its, m, g1, g2, g3, g4, g5, g6⟩
    · exact .inl (.inr ⟨o, g⟩)
    · exact .inr ⟨o, its, m, g1, g2, g3, g4, g5, g6⟩
  | _ => cases e
theorem isTup_of {t : Expr} (h : isTup t = true) : ∃ es k p, t = .Tuple es k p := by
  cases t <;> first | exact ⟨_, _, _, rfl⟩ | (simp [isTup] at h)
theorem s_src (c : Cok cfg nm ca fa n X W) {s : Src} {es : List E} {t it : Expr} {xs : List Expr} (h : srcArgs X.env.scope s t it = some xs) (hs : noStars xs = true) (hl : es.length = xs.length) (ha : PA X xs (tEs cfg X.K ca n es W)) (he : ∀ e x, es = [e] → xs = [x] → PE X x (tE cfg X.K ca n e W)) :
    PI X t it (tSrc cfg ca n X W s es) := by
  have one : ∀ {x : Expr} {xs : List Expr}, noStars (x :: xs) = true → noStar x = true ∧ noStars xs = true := fun {x xs} h => by
    unfold noStars at h
    rw [List.all_cons, Bool.and_eq_true] at h
    exact h
  cases s with
  | seq =>
    cases h
    cases es with
    | nil => cases hl
    | cons e r =>
      cases r with
      | cons _ _ => cases hl
      | nil => exact ⟨fun pins s σ H R I q => (pi_any (he e it rfl rfl)).run pins s σ H R I (src_seq q)⟩
  | rng1 =>
    simp only [srcArgs] at h
    split at h
    · split at h
      · rename_i hx
        cases h
        simp only [Bool.and_eq_true, beq_iff_eq] at hx
        obtain ⟨rfl, hg⟩ := hx
        refine ⟨fun pins s σ H R I q => (pi_range1 (glb_of hg) (c.top.bl _ (by decide +kernel)) ha (star_cons (one hs).1)).run pins s σ H R I ?_⟩
        obtain ⟨ρ, as, L, hρ, r, q⟩ := src_args q
        refine ⟨ρ, as, L, hρ, r, q.mono fun vs L1 as1 H1 x1 r1 h1 xs hx => ?_⟩
        obtain ⟨as2, L2, vs2, iv, r2, hx2, e, q⟩ := h1 xs hx
        simp only [srcR] at e
        split at e
        · split at e
          · cases e
            obtain ⟨v, rfl, hv⟩ := repDs1 hx2
            exact ⟨_, by rw [show v = V.int _ from hv], by omega, by omega, q _ iv_rng⟩
          · cases e
        · cases e
      · cases h
    · cases h
  | rng2 =>
    simp only [srcArgs] at h
    split at h
    · split at h
      · rename_i hx
        cases h
        simp only [Bool.and_eq_true, beq_iff_eq] at hx
        obtain ⟨rfl, hg⟩ := hx
        refine ⟨fun pins s σ H R I q => (pi_range2 (glb_of hg) (c.top.bl _ (by decide +kernel)) ha (by rw [star_cons (one hs).1, star_cons (one (one hs).2).1]; rfl) (star_cons (one (one hs).2).1)).run pins s σ H R I ?_⟩
        obtain ⟨ρ, as, L, hρ, r, q⟩ := src_args q
        refine ⟨ρ, as, L, hρ, r, q.mono fun vs L1 as1 H1 x1 r1 h1 xs hx => ?_⟩
        obtain ⟨as2, L2, vs2, iv, r2, hx2, e, q⟩ := h1 xs hx
        simp only [srcR] at e
        split at e
        · split at e
          · cases e
            obtain ⟨v, u, rfl, hv, hu⟩ := repDs2 hx2
            exact ⟨_, _, by rw [show v = V.int _ from hv, show u = V.int _ from hu], by assumption, q _ iv_rng⟩
          · cases e
        · cases e
      · cases h
    · cases h
  | zip =>
    simp only [srcArgs] at h
    split at h
    · split at h
      · rename_i hx
        cases h
        simp only [Bool.and_eq_true, beq_iff_eq] at hx
        obtain ⟨⟨rfl, hg⟩, ht⟩ := hx
        obtain ⟨el, k, tp, rfl⟩ := isTup_of ht
        refine ⟨fun pins s σ H R I q => (RZ.pi_zipA (glb_of hg) (c.top.bl _ (by decide +kernel)) ha (star_cons (one hs).1) (stars_none (one hs).2)).run pins s σ H R I ?_⟩
        obtain ⟨ρ, as, L, hρ, r, q⟩ := src_args q
        refine ⟨ρ, as, L, hρ, r, q.mono fun vs L1 as1 H1 x1 r1 h1 xs hx => ?_⟩
        obtain ⟨as2, L2, vs2, iv, r2, hx2, e, q⟩ := h1 xs hx
        simp only [srcR] at e
        split at e
        · cases e
          obtain ⟨v, u, rfl, hv, hu⟩ := repDs2 hx2
          simp only [RepD] at hv hu
          obtain ⟨p, ps, rfl, g1, g2⟩ := hv
          obtain ⟨p', ps', rfl, g1', g2'⟩ := hu
          exact ⟨p, p', ps, ps', rfl, .inr ⟨g1, g1', q _ (iv_zip r2 g1 g2 g1' g2')⟩⟩
        · cases e
      · cases h
    · cases h
  | enm =>
    simp only [srcArgs] at h
    split at h
    · split at h
      · rename_i hx
        cases h
        simp only [Bool.and_eq_true, beq_iff_eq] at hx
        obtain ⟨⟨rfl, hg⟩, ht⟩ := hx
        obtain ⟨el, k, tp, rfl⟩ := isTup_of ht
        refine ⟨fun pins s σ H R I q => (pi_enT (glb_of hg) (c.top.bl _ (by decide +kernel)) ha (star_cons (one hs).1)).run pins s σ H R I ?_⟩
        obtain ⟨ρ, as, L, hρ, r, q⟩ := src_args q
        refine ⟨ρ, as, L, hρ, r, q.mono fun vs L1 as1 H1 x1 r1 h1 xs hx => ?_⟩
        obtain ⟨as2, L2, vs2, iv, r2, hx2, e, q⟩ := h1 xs hx
        simp only [srcR] at e
        split at e
        · cases e
          obtain ⟨v, rfl, hv⟩ := repDs1 hx2
          simp only [RepD] at hv
          obtain ⟨p, ps, rfl, g1, g2⟩ := hv
          exact ⟨p, ps, rfl, g1, q _ (iv_enm r2 g1 g2)⟩
        · cases e
      · cases h
    · cases h

/-! ### [e for t in it if c] -/
/-- no exception is wanted -/
abbrev W0 : WX := fun _ _ _ _ => False
theorem Cok.blk (c : Cok cfg nm ca fa n X W) (s : Shared) (H : Hp) (scope : Scope) (C : Addr) (cl : List (Str × Addr)) (fp : List Addr) : Cok cfg nm ca fa n (X.blk s H scope (compEnvC scope cl C X.env) fp) W0 :=
  ⟨c.top, c.nd, c.calm, c.rm, takes0, PassesOwn.never, c.fs, c.fi⟩
variable (cfg n) in
/-- what a turn of a list comprehension does -/
def stepLc (tg : Tg) (own : List Nat) (cond : List E) (e : E) (ρ : Env) : D → List D → LH → R (Step (List D) Unit) := fun d acc L => (asg cfg tg d (wipe ρ own) L).calm.bind fun ρ' L => (evC cfg (calls cfg n).1 (calls cfg n).2 cond ρ' L).calm.bind fun b L =>
  if b then (evE cfg (calls cfg n).1 (calls cfg n).2 e ρ' L).calm.bind fun x L => if acc.length < most then .ok (.more (acc ++ [x])) L else .bad else .ok (.more acc) L
def finLc : Step (List D) Unit → LH → R D := fun s L => match s with
  | .more acc => .ok (.ref L.length) (L ++ [.lst acc])
  | .done _ => .bad
theorem ev_lc {tg : Tg} {own : List Nat} {src : Src} {es cond : List E} {e : E} (ρ : Env) (L : LH) : ev cfg n (.lc tg own src es cond e) ρ L = (evs cfg n es ρ L).bind fun vs L => (ivR src L vs).bind fun iv L => (loopV (stepLc cfg n tg own cond e ρ) iv [] L).bind finLc := by
  simp only [ev, evs, evE]
  congr 1
  funext vs L
  unfold ivR
  cases srcR src L vs with
  | none => rfl
  | some iv => rfl
theorem lc_turn {σ : L2.St} {ρ : Env} {tg : Tg} {own : List Nat} {cond : List E} {e : E} {as0 as : List Addr} {H0 H : Hp} {L : LH} {Dl : Addr} {acc : List D} {accV : List V} {d : D} {x : V} {W' : XK} {Ψ : D → LH → List Addr → Hp → Prop} {k : Step (List D) Unit → LH → R D} {Nx : Hp → Prop} (hslots : ∀ i ∈ slots tg, i ∈ own)
    (hN : ∀ as' L' H' acc' accV', Grow cfg.tab X.K ca as0 H0 Dl as' L' H' acc' accV' → Agr as H as' H' → SO cfg.tab X.K ca (k (.more acc') L') W' as0 H0 Ψ → Nx H')
    (g : Grow cfg.tab X.K ca as0 H0 Dl as L H acc accV) (hρ : RepE cfg.tab X.K as H ρ σ) (hd : RepD cfg.tab X.K as H d x) (h : SO cfg.tab X.K ca ((stepLc cfg n tg own cond e ρ d acc L).bind k) W' as0 H0 Ψ) :
    gT cfg X.K ca tg x (L2.wipe σ own) H fun σ2 H2 => L2.wipe σ2 own = L2.wipe σ own ∧ tC' cfg X.K ca n cond W0 σ2 H2 fun b H3 =>
      if b = true then tE cfg X.K ca n e W0 σ2 H3 fun y H4 => ∃ acc', H4 Dl = some (.lst acc') ∧ acc'.length < sizeLine ∧ Nx (upd H4 Dl (.lst (acc' ++ [y])))
      else Nx H3 := by
  unfold stepLc at h
  rw [Ev.R.bind_assoc] at h
  refine ⟨fun _ _ _ => False, d, wipe ρ own, as, L, hd, hρ.wipe own, g.rp, SO.part h g.ext fun ρ' L1 as1 H1 x0 x1 r1 h1 σ' hσ' ap => ?_⟩
  refine ⟨(ap.wiped hslots).trans (wipe_wipe σ own), ρ', as1, L1, hσ', r1, ?_⟩
  rw [Ev.R.bind_assoc] at h1
  refine SO.part h1 x0 fun b L2 as2 H2 y0 y1 r2 h2 => ?_
  cases b with
  | false =>
    rw [if_neg Bool.false_ne_true] at h2 ⊢
    exact hN as2 L2 H2 acc accV ((g.step x1 r1).step y1 r2) ((x1.agr g.rp).trans (y1.agr r1)) h2
  | true =>
    rw [if_pos rfl] at h2 ⊢
    rw [Ev.R.bind_assoc] at h2
    refine ⟨ρ', as2, L2, hσ'.ext r1 y1, r2, SO.part h2 y0 fun v L3 as3 H3 z0 z1 r3 h3 z hz => ?_⟩
    have g3 := ((g.step x1 r1).step y1 r2).step z1 r3
    by_cases c : acc.length < most
    · rw [if_pos c] at h3
      exact ⟨accV, g3.lst, by rw [← g3.rep.length, ← most_eq]; exact c, hN as3 L3 _ _ _ (g3.push hz) (((x1.agr g.rp).trans ((y1.agr r1).trans (z1.agr r2))).trans (agr_side (.inl ⟨_, g3.lst⟩) (List.prefix_refl _))) h3⟩
    · rw [if_neg c] at h3; exact h3.elim
theorem lc_im {tg : Tg} {own : List Nat} {src : Src} {es cond : List E} {e : E} (hslots : ∀ i ∈ slots tg, i ∈ own) {σ : L2.St} {H : Hp} {Q : VK} (h : tE cfg X.K ca n (.lc tg own src es cond e) W σ H Q) :
    tLc (tSrc cfg ca n X W src es) (gT cfg X.K ca tg) (tC' cfg X.K ca n cond W0) (tE cfg X.K ca n e W0) own σ H Q := by
  obtain ⟨ρ, as, L, hρ, r, h⟩ := h
  have h := h.cast (ev_lc ρ L)
  refine ⟨ρ, as, L, hρ, r, ?_⟩
  have h : SO cfg.tab X.K ca (((evs cfg n es ρ L).bind fun vs L => ivR src L vs).bind fun iv L => (loopV (stepLc cfg n tg own cond e ρ) iv [] L).bind finLc) (fun c d H' => W c d σ H') as H (K1 cfg.tab X.K Q) := by rw [Ev.R.bind_assoc]; exact h
  refine h.bind.mono fun iv L1 as1 H1 x1 r1 h1 J hJ Dl hD => ?_
  obtain ⟨m0, e0⟩ := left_start (stepLc cfg n tg own cond e ρ) iv [] L1
  rcases e0 with e0 | e0
  · rw [e0] at h1
    let Wi : Nat → Nat → Hp → Prop := fun i m H2 => ∃ as L2 acc accV, Grow cfg.tab X.K ca as1 H1 Dl as L2 H2 acc accV ∧ ( SO cfg.tab X.K ca ((left (stepLc cfg n tg own cond e ρ) iv i m acc L2).bind finLc) (fun c d H' => W c d σ H') as1 H1 (K1 cfg.tab X.K Q))
    refine ⟨Wi, ⟨m0, as1, L1, [], [], .start r1 hD, h1⟩, ?_⟩
    rintro i m H2 ⟨as2, L2, acc, accV, g, h2⟩
    rcases left_turn (stepLc cfg n tg own cond e ρ) iv i m acc L2 with z | ⟨m', o, rfl, ea, le, e1, e2⟩
    · rw [z] at h2; exact h2.elim
    · obtain ⟨k1, k2⟩ := hJ i as2 L2 H2 o (g.ext.agr r1) g.rp ea le
      cases o with
      | none =>
        rw [e1 rfl] at h2
        refine .inl ⟨k1 rfl, ?_⟩
        obtain ⟨y1, y2, y3⟩ := g.done
        exact h2 _ _ y1 y2 _ y3
      | some d =>
        obtain ⟨go, yl⟩ := k2 d rfl
        refine .inr ⟨go, Wi (i + 1) m', fun H' w => ⟨m', Nat.lt_succ_self _, w⟩, fun x H3 y => ?_⟩
        obtain ⟨z1, z2, z3⟩ := yl x H3 y
        rw [e2 d rfl, Ev.R.bind_assoc] at h2
        exact lc_turn hslots (fun as' L' H' acc' accV' q1 _ q3 => ⟨as', L', acc', accV', q1, q3⟩) (g.step z1 z2) ((((hρ.ext r x1).ext r1 g.ext)).ext g.rp z1) z3 h2
  · rw [e0] at h1; exact h1.elim
end
end Ev

end
section
set_option linter.all false
set_option maxRecDepth 100000
/-! Ev: list comprehensions with two clauses. -/
namespace Ev
open PySem PySem.Spec L2
section
variable {cfg : Cfg} {nm : Nm} {ca fa : Nat → Addr} {n : Nat} {X : Cx} {W : WX} {pe pa pb pc : Expr} {a b d : E} {pos : Pos}
variable (cfg n) in
def stepLc2 (tg : Tg) (own : List Nat) (tg1 : Tg) (own1 : List Nat) (src1 : Src) (es1 : List E) (e : E) (ρ : Env) : D → List D → LH → R (Step (List D) Unit) := fun d acc L => (asg cfg tg d (wipe ρ own) L).calm.bind fun ρ' L => (evs cfg n es1 ρ' L).calm.bind fun vs1 L =>
  (ivR src1 L vs1).bind fun iv1 L => loopV (stepLc cfg n tg1 own1 [] e ρ') iv1 acc L
theorem ev_lc2 {tg tg1 : Tg} {own own1 : List Nat} {src src1 : Src} {es es1 : List E} {e : E} (ρ : Env) (L : LH) : ev cfg n (.lc2 tg own src es tg1 own1 src1 es1 e) ρ L = (evs cfg n es ρ L).bind fun vs L => (ivR src L vs).bind fun iv L => (loopV (stepLc2 cfg n tg own tg1 own1 src1 es1 e ρ) iv [] L).bind finLc := by
  have st : (fun (d : D) (acc : List D) (L : LH) => (asg cfg tg d (wipe ρ own) L).calm.bind fun ρ' L => (evEs cfg (calls cfg n).1 (calls cfg n).2 es1 ρ' L).calm.bind fun vs1 L => match srcR src1 L vs1 with
        | some iv1 => loopV (γ := Unit) (fun d acc L => (asg cfg tg1 d (wipe ρ' own1) L).calm.bind fun ρ' L => (evE cfg (calls cfg n).1 (calls cfg n).2 e ρ' L).calm.bind fun x L => if acc.length < most then .ok (.more (acc ++ [x])) L else .bad) iv1 acc L
        | none => .bad) = stepLc2 cfg n tg own tg1 own1 src1 es1 e ρ := by
    funext d acc L
    unfold stepLc2
    congr 1
    funext ρ' L
    congr 1
    funext vs L
    unfold ivR
    cases srcR src1 L vs with
    | none => rfl
    | some iv =>
      have st1 : (fun (d : D) (acc : List D) (L : LH) => (asg cfg tg1 d (wipe ρ' own1) L).calm.bind fun ρ' L => (evE cfg (calls cfg n).1 (calls cfg n).2 e ρ' L).calm.bind fun x L => if acc.length < most then R.ok (Step.more (γ := Unit) (acc ++ [x])) L else .bad) = stepLc cfg n tg1 own1 [] e ρ' := by
        funext d acc L
        unfold stepLc
        congr 1
      exact congrArg (fun f => loopV f iv acc L) st1
  simp only [ev, evs, evE]
  congr 1
  funext vs L
  unfold ivR
  cases srcR src L vs with
  | none => rfl
  | some iv => exact congrArg (fun f => (loopV f iv [] L).bind finLc) st
theorem lc2_im {tg tg1 : Tg} {own own1 : List Nat} {src src1 : Src} {es es1 : List E} {e : E} (hslots : ∀ i ∈ slots tg, i ∈ own) (hslots1 : ∀ i ∈ slots tg1, i ∈ own1) {σ : L2.St} {H : Hp} {Q : VK} (h : tE cfg X.K ca n (.lc2 tg own src es tg1 own1 src1 es1 e) W σ H Q) :
    tLc2 (tSrc cfg ca n X W src es) (gT cfg X.K ca tg) (tC' cfg X.K ca n [] W0) (tSrc cfg ca n X W0 src1 es1) (gT cfg X.K ca tg1) (tC' cfg X.K ca n [] W0) (tE cfg X.K ca n e W0) own own1 σ H Q := by
  obtain ⟨ρ, as, L, hρ, r, h⟩ := h
  have h := h.cast (ev_lc2 ρ L)
  refine ⟨ρ, as, L, hρ, r, ?_⟩
  have h : SO cfg.tab X.K ca (((evs cfg n es ρ L).bind fun vs L => ivR src L vs).bind fun iv L => (loopV (stepLc2 cfg n tg own tg1 own1 src1 es1 e ρ) iv [] L).bind finLc) (fun c d H' => W c d σ H') as H (K1 cfg.tab X.K Q) := by rw [Ev.R.bind_assoc]; exact h
  refine h.bind.mono fun iv L1 as1 H1 x1 r1 h1 J hJ Dl hD => ?_
  obtain ⟨m0, e0⟩ := left_start (stepLc2 cfg n tg own tg1 own1 src1 es1 e ρ) iv [] L1
  rcases e0 with e0 | e0
  · rw [e0] at h1
    let Wi : Nat → Nat → Hp → Prop := fun i m H2 => ∃ as L2 acc accV, Grow cfg.tab X.K ca as1 H1 Dl as L2 H2 acc accV ∧ ( SO cfg.tab X.K ca ((left (stepLc2 cfg n tg own tg1 own1 src1 es1 e ρ) iv i m acc L2).bind finLc) (fun c d H' => W c d σ H') as1 H1 (K1 cfg.tab X.K Q))
    refine ⟨Wi, ⟨m0, as1, L1, [], [], .start r1 hD, h1⟩, ?_⟩
    rintro i0 m H2 ⟨as2, L2, acc, accV, g, h2⟩
    rcases left_turn (stepLc2 cfg n tg own tg1 own1 src1 es1 e ρ) iv i0 m acc L2 with z | ⟨m', o, rfl, ea, le, e1, e2⟩
    · rw [z] at h2; exact h2.elim
    · obtain ⟨k1, k2⟩ := hJ i0 as2 L2 H2 o (g.ext.agr r1) g.rp ea le
      cases o with
      | none =>
        rw [e1 rfl] at h2
        refine .inl ⟨k1 rfl, ?_⟩
        obtain ⟨y1, y2, y3⟩ := g.done
        exact h2 _ _ y1 y2 _ y3
      | some d =>
        obtain ⟨go, yl⟩ := k2 d rfl
        refine .inr ⟨go, Wi (i0 + 1) m', fun H' w => ⟨m', Nat.lt_succ_self _, w⟩, fun x H3 y => ?_⟩
        obtain ⟨z1, z2, z3⟩ := yl x H3 y
        rw [e2 d rfl, Ev.R.bind_assoc] at h2
        have g2 := g.step z1 z2
        have hρ2 := (((hρ.ext r x1).ext r1 g.ext)).ext g.rp z1
        have hst : stepLc2 cfg n tg own tg1 own1 src1 es1 e ρ d acc L2 = (asg cfg tg d (wipe ρ own) L2).calm.bind fun ρ' L => (evs cfg n es1 ρ' L).calm.bind fun vs1 L => (ivR src1 L vs1).bind fun iv1 L => loopV (stepLc cfg n tg1 own1 [] e ρ') iv1 acc L := rfl
        rw [hst, Ev.R.bind_assoc] at h2
        refine ⟨fun _ _ _ => False, d, wipe ρ own, as2, L2, z3, hρ2.wipe own, z2, SO.part h2 g2.ext fun ρ' L3 as3 H4 x0 x1 r3 h3 σ' hσ' ap => ?_⟩
        refine ⟨(ap.wiped hslots).trans (wipe_wipe σ own), ρ', as3, L3, hσ', r3, ?_⟩
        simp only [evC]
        intro as4 H5 x4 r4
        rw [if_pos rfl]
        have g4 := (g2.step x1 r3).step x4 r4
        rw [Ev.R.bind_assoc] at h3
        refine ⟨ρ', as4, L3, hσ'.ext r3 x4, r4, ?_⟩
        -- the inner source
        cases ev1 : evs cfg n es1 ρ' L3 with
        | bad => rw [ev1] at h3; exact h3.elim
        | exc _ _ => rw [ev1] at h3; exact h3.elim
        | ok vs1 L4 =>
          rw [ev1] at h3
          simp only [R.calm_ok, R.bind_ok] at h3 ⊢
          cases ei : ivR src1 L4 vs1 with
          | bad => rw [ei] at h3; exact h3.elim
          | exc _ _ =>
            unfold ivR at ei
            split at ei <;> cases ei
          | ok iv1 L5 =>
            rw [ei] at h3
            simp only [R.bind_ok] at h3
            intro as5 H6 x5 r5 J1 hJ1
            have g5 := g4.step x5 r5
            obtain ⟨m1, f0⟩ := left_start (stepLc cfg n tg1 own1 [] e ρ') iv1 acc L5
            rcases f0 with f0 | f0
            · rw [f0] at h3
              let Wj : Nat → Nat → Hp → Prop := fun i k H2 => ∃ as L acc accV, Grow cfg.tab X.K ca as1 H1 Dl as L H2 acc accV ∧ Agr as5 H6 as H2 ∧ SO cfg.tab X.K ca ((left (stepLc cfg n tg1 own1 [] e ρ') iv1 i k acc L).bind fun a L => (next_ (stepLc2 cfg n tg own tg1 own1 src1 es1 e ρ) iv (i0 + 1) m' a L).bind finLc) (fun c d H' => W c d σ H') as1 H1 (K1 cfg.tab X.K Q)
              refine ⟨Wj, ⟨m1, as5, L5, acc, accV, g5, .refl, h3⟩, ?_⟩
              rintro j k H7 ⟨as7, L7, acc7, accV7, g7, a7, h7⟩
              rcases left_turn (stepLc cfg n tg1 own1 [] e ρ') iv1 j k acc7 L7 with z | ⟨k', o1, rfl, ea1, le1, f1, f2⟩
              · rw [z] at h7; exact h7.elim
              · obtain ⟨q1, q2⟩ := hJ1 j as7 L7 H7 o1 a7 g7.rp ea1 le1
                cases o1 with
                | none =>
                  rw [f1 rfl] at h7
                  exact .inl ⟨q1 rfl, as7, L7, acc7, accV7, g7, h7⟩
                | some d1 =>
                  obtain ⟨go1, yl1⟩ := q2 d1 rfl
                  refine .inr ⟨go1, Wj (j + 1) k', fun H' w => ⟨k', Nat.lt_succ_self _, w⟩, fun x1 H8 y1 => ?_⟩
                  obtain ⟨v1, v2, v3⟩ := yl1 x1 H8 y1
                  rw [f2 d1 rfl, Ev.R.bind_assoc] at h7
                  have a8 := a7.trans (v1.agr g7.rp)
                  have hρ8 : RepE cfg.tab X.K as7 H8 ρ' σ' := ((hσ'.ext r3 x4).ext r4 x5).agr a8
                  exact lc_turn hslots1 (fun as' L' H' acc' accV' p1 p2 p3 => ⟨as', L', acc', accV', p1, a8.trans p2, p3⟩) (g7.step v1 v2) hρ8 v3 h7
            · rw [f0] at h3; exact h3.elim
  · rw [e0] at h1; exact h1.elim
end
end Ev

end
section
set_option linter.all false
set_option maxRecDepth 100000
/-! Ev: all expressions. -/
namespace Ev
open PySem PySem.Spec L2
section
variable {cfg : Cfg} {nm : Nm} {ca fa : Nat → Addr} {n : Nat} {pos : Pos}
variable (cfg ca n) in
structure SndEs (X : Cx) (W : WX) (es : List E) (xs : List Expr) : Prop where
  pa : PA X xs (tEs cfg X.K ca n es W)
  one : ∀ e x, es = [e] → xs = [x] → SndE cfg ca n X W e x
  stars : noStars xs = true
  len : es.length = xs.length
  pps : ∀ (pos : Pos) (ks : List Nat) (keys : List (Option Expr)), chkKs cfg.tab ks keys = true → keys.length = xs.length → ks.length = es.length → PPs X pos keys xs (trsOf cfg X.K ca n W ks es)
theorem es_nil {X : Cx} {W : WX} : SndEs cfg ca n X W [] [] :=
  ⟨⟨fun pos pins s σ H Q I h => pa_nil.run pos pins s σ H Q I (tEs_nil h)⟩, fun e x h => (by cases h), rfl, rfl, fun pos ks keys hk hl hl2 => by
    cases keys with
    | cons _ _ => cases hl
    | nil =>
      cases ks with
      | cons _ _ => cases hl2
      | nil => exact pps_nil⟩
theorem chkKs_cons {tab : List Str} {c : Nat} {ks : List Nat} {k : Option Expr} {keys : List (Option Expr)} (h : chkKs tab (c :: ks) (k :: keys) = true) : ∃ j p, k = some (.Constant (.str (tx tab c)) j p) ∧ chkKs tab ks keys = true := by
  unfold chkKs at h
  split at h
  · rename_i x j p r hh
    injection hh with h1 h2
    subst h1 h2
    simp only [Bool.and_eq_true, decide_eq_true_eq] at h
    obtain ⟨⟨⟨_, rfl⟩, _⟩, h4⟩ := h
    exact ⟨j, p, rfl, h4⟩
  · cases h
theorem es_cons {X : Cx} {W : WX} {e : E} {x : Expr} {es : List E} {xs : List Expr} (hs : noStar x = true) (h : SndE cfg ca n X W e x) (r : SndEs cfg ca n X W es xs) : SndEs cfg ca n X W (e :: es) (x :: xs) := by
  refine ⟨(pa_cons h.1 r.pa (star_cons hs)).imp fun σ H Q ⟨ρ, as, L, hρ, rp, q⟩ => ?_, fun e' x' h1 h2 => ?_, ?_, by rw [List.length_cons, List.length_cons, r.len], fun pos ks keys hk hl hl2 => ?_⟩
  · simp only [evEs] at q
    refine ⟨ρ, as, L, hρ, rp, q.bind.mono fun v L1 as1 H1 x1 r1 h1 z hz => ?_⟩
    refine ⟨ρ, as1, L1, hρ.ext rp x1, r1, h1.bind.mono fun vs L2 as2 H2 x2 r2 h2 zs hzs => ?_⟩
    exact h2.here r2 (z :: zs) (.cons (hz.ext r1 x2) hzs)
  · cases h1; cases h2; exact h
  · unfold noStars
    rw [List.all_cons, hs]
    exact r.stars
  · cases ks with
    | nil => cases hl2
    | cons c ks =>
      cases keys with
      | nil => cases hl
      | cons k keys =>
        obtain ⟨j, p, e, h4⟩ := chkKs_cons hk
        subst e
        exact pps_cons pe_str h.1 (r.pps pos ks keys h4 (by simpa using hl) (by simpa using hl2))
theorem ownOf_snd (N : List Str) (ow : List Nat) : (ownOf N ow).map (·.2) = ow := by
  unfold ownOf
  rw [List.map_map]
  exact List.map_id'' (fun _ => rfl) ow
theorem pts_of {X : Cx} {W : WX} {cond : List E} {ifs : List Expr} (hl : cond.length ≤ 1) (r : SndEs cfg ca n X W cond ifs) : PTs X ifs (tC' cfg X.K ca n cond W) := by
  have l := r.len
  cases cond with
  | nil =>
    cases ifs with
    | cons _ _ => cases l
    | nil =>
      refine ⟨fun pins s σ H Q I h => pts_nil.run pins s σ H Q I ?_⟩
      obtain ⟨ρ, as, L, hρ, rp, q⟩ := h
      simp only [evC] at q
      exact q.here rp
  | cons e es =>
    cases es with
    | cons _ _ => simp at hl
    | nil =>
      cases ifs with
      | nil => cases l
      | cons x xs =>
        cases xs with
        | cons _ _ => cases l
        | nil =>
          refine ⟨fun pins s σ H Q I h => (pts_one (r.one e x rfl rfl).2).run pins s σ H Q I ?_⟩
          obtain ⟨ρ, as, L, hρ, rp, q⟩ := h
          simp only [evC] at q
          exact ⟨ρ, as, L, hρ, rp, q⟩
theorem s_lc {X : Cx} {W : WX} (c : Cok cfg nm ca fa n X W) {tg : Tg} {ow : List Nat} {src : Src} {es cond : List E} {e : E} {t it elt : Expr} {ifs xs : List Expr} {scope : Scope} (hb : blkC X.N X.env.scope scope (ownOf X.N ow) = true) (hsl : ∀ i ∈ slots tg, i ∈ ow) (ht : tame it = true)
    (hg : chkT cfg.tab X.N (relS scope X.env.scope) (fnOf scope) tg t = true) (hx : srcArgs X.env.scope src t it = some xs) (r : SndEs cfg ca n X W es xs)
    (hc : ∀ (s : Shared) (H : Hp) (C : Addr) (cl : List (Str × Addr)) (fp : List Addr), PTs (X.blk s H scope (compEnvC scope cl C X.env) fp) ifs (tC' cfg X.K ca n cond W0))
    (he : ∀ (s : Shared) (H : Hp) (C : Addr) (cl : List (Str × Addr)) (fp : List Addr), SndE cfg ca n (X.blk s H scope (compEnvC scope cl C X.env) fp) W0 e elt) : SndE cfg ca n X W (.lc tg ow src es cond e) (.ListComp elt [⟨t, it, ifs, 0⟩] scope pos) := by
  have hg' : ∀ (s : Shared) (H : Hp) (C : Addr) (cl : List (Str × Addr)) (fp : List Addr), PG (X.blk s H scope (compEnvC scope cl C X.env) fp) t (gT cfg X.K ca tg) := fun s H C cl fp => sndT (c.blk s H scope C cl fp) (f := fnOf scope) (fun x hx => hx) tg t hg
  have he' : ∀ (s : Shared) (H : Hp) (C : Addr) (cl : List (Str × Addr)) (fp : List Addr), PE (X.blk s H scope (compEnvC scope cl C X.env) fp) elt (tE cfg X.K ca n e W0) := fun s H C cl fp => (he s H C cl fp).1
  have lc := pe_lc (pos := pos) c.calm c.nd (s_src c hx r.stars r.len r.pa fun e x h1 h2 => (r.one e x h1 h2).1) (blkOk_by hb) hg' hc he' (tame_folded ht)
  rw [ownOf_snd] at lc
  exact snd_plain (lc.imp fun σ H Q q => lc_im hsl q) fun _ => rfl
theorem s_lc2 {X : Cx} {W : WX} (c : Cok cfg nm ca fa n X W) {tg tg1 : Tg} {ow ow1 : List Nat} {src src1 : Src} {es es1 : List E} {e : E} {t it t1 it1 elt : Expr} {xs xs1 : List Expr} {scope : Scope} (hb : blkC X.N X.env.scope scope (ownOf X.N ow) = true) (ht : tame it = true) (ht1 : tame it1 = true)
    (hv : ∀ i ∈ ow1, i ∈ ow) (hsl : ∀ i ∈ slots tg, i ∈ ow) (hsl1 : ∀ i ∈ slots tg1, i ∈ ow1)
    (hg : chkT cfg.tab X.N (relS scope X.env.scope) (fnOf scope) tg t = true) (hg1 : chkT cfg.tab X.N (relS scope X.env.scope) (fnOf scope) tg1 t1 = true) (hx : srcArgs X.env.scope src t it = some xs) (r : SndEs cfg ca n X W es xs) (hx1 : srcArgs (relS scope X.env.scope) src1 t1 it1 = some xs1)
    (r1 : ∀ (s : Shared) (H : Hp) (C : Addr) (cl : List (Str × Addr)) (fp : List Addr), SndEs cfg ca n (X.blk s H scope (compEnvC scope cl C X.env) fp) W0 es1 xs1)
    (he : ∀ (s : Shared) (H : Hp) (C : Addr) (cl : List (Str × Addr)) (fp : List Addr), SndE cfg ca n (X.blk s H scope (compEnvC scope cl C X.env) fp) W0 e elt) : SndE cfg ca n X W (.lc2 tg ow src es tg1 ow1 src1 es1 e) (.ListComp elt [⟨t, it, [], 0⟩, ⟨t1, it1, [], 0⟩] scope pos) := by
  have hg' : ∀ (s : Shared) (H : Hp) (C : Addr) (cl : List (Str × Addr)) (fp : List Addr), PG (X.blk s H scope (compEnvC scope cl C X.env) fp) t (gT cfg X.K ca tg) := fun s H C cl fp => sndT (c.blk s H scope C cl fp) (f := fnOf scope) (fun x hx => hx) tg t hg
  have hg1' : ∀ (s : Shared) (H : Hp) (C : Addr) (cl : List (Str × Addr)) (fp : List Addr), PG (X.blk s H scope (compEnvC scope cl C X.env) fp) t1 (gT cfg X.K ca tg1) := fun s H C cl fp => sndT (c.blk s H scope C cl fp) (f := fnOf scope) (fun x hx => hx) tg1 t1 hg1
  have he' : ∀ (s : Shared) (H : Hp) (C : Addr) (cl : List (Str × Addr)) (fp : List Addr), PE (X.blk s H scope (compEnvC scope cl C X.env) fp) elt (tE cfg X.K ca n e W0) := fun s H C cl fp => (he s H C cl fp).1
  have hc : ∀ (s : Shared) (H : Hp) (C : Addr) (cl : List (Str × Addr)) (fp : List Addr), PTs (X.blk s H scope (compEnvC scope cl C X.env) fp) [] (tC' cfg X.K ca n [] W0) := fun s H C cl fp => pts_of (by simp) es_nil
  have hi1 : ∀ (s : Shared) (H : Hp) (C : Addr) (cl : List (Str × Addr)) (fp : List Addr), PI (X.blk s H scope (compEnvC scope cl C X.env) fp) t1 it1 (tSrc cfg ca n X W0 src1 es1) := fun s H C cl fp =>
    s_src (c.blk s H scope C cl fp) hx1 (r1 s H C cl fp).stars (r1 s H C cl fp).len (r1 s H C cl fp).pa fun e x h1 h2 => ((r1 s H C cl fp).one e x h1 h2).1
  have lc := pe_lc2 (pos := pos) (vs1 := ow1) c.calm c.nd (s_src c hx r.stars r.len r.pa fun e x h1 h2 => (r.one e x h1 h2).1) (blkOk_by hb) (by rw [ownOf_snd]; exact hv) hg' hc hi1 hg1' hc he' (tame_folded ht) (fun env => tame_folded ht1)
  rw [ownOf_snd] at lc
  exact snd_plain (lc.imp fun σ H Q q => lc2_im hsl hsl1 q) fun _ => rfl
mutual
theorem sndE : ∀ (e : E) (X : Cx) (W : WX) (pe : Expr), Cok cfg nm ca fa n X W → chkE nm cfg.tab X.N X.env.scope e pe = true → SndE cfg ca n X W e pe
  | .var i, X, W, pe, c, h => by
    simp only [chkE] at h
    split at h
    · simp only [Bool.and_eq_true, decide_eq_true_eq] at h
      exact s_var h.1.1 h.1.2 h.2
    · cases h
  | .non, X, W, pe, c, h => by
    simp only [chkE] at h
    split at h
    · exact s_non (j := .inr ())
    · cases h
  | .bl b, X, W, pe, c, h => by
    simp only [chkE] at h
    split at h
    · cases beq_iff_eq.mp h
      exact s_bl
    · cases h
  | .int i, X, W, pe, c, h => by
    simp only [chkE] at h
    split at h
    · cases of_decide_eq_true h
      exact s_int
    · cases h
  | .str k, X, W, pe, c, h => by
    simp only [chkE] at h
    split at h
    · simp only [Bool.and_eq_true, decide_eq_true_eq] at h
      obtain ⟨h, rfl⟩ := h
      exact s_str h
    · cases h
  | .glo g, X, W, pe, c, h => by
    simp only [chkE] at h
    split at h
    · simp only [Bool.and_eq_true, decide_eq_true_eq] at h
      exact s_glo c h.1.1 h.1.2 h.2
    · cases h
  | .tup es, X, W, pe, c, h => by
    simp only [chkE] at h
    split at h
    · simp only [Bool.and_eq_true, decide_eq_true_eq] at h
      exact s_tup h.1 (sndEs es X W _ c h.2).pa
    · cases h
  | .lst es, X, W, pe, c, h => by
    simp only [chkE] at h
    split at h
    · simp only [Bool.and_eq_true, decide_eq_true_eq] at h
      exact s_lst h.1 (sndEs es X W _ c h.2).pa
    · cases h
  | .dic ks es, X, W, pe, c, h => by
    simp only [chkE] at h
    split at h
    · simp only [Bool.and_eq_true, decide_eq_true_eq] at h
      obtain ⟨⟨⟨⟨h1, h2⟩, h3⟩, h4⟩, h5⟩ := h
      have r := sndEs es X W _ c h2
      exact s_dic c h1 h3 h4 h5 (by rw [h3, h4, r.len]) (r.pps _ _ _ h1 h3 h4)
    · cases h
  | .bin o a b, X, W, pe, c, h => by
    simp only [chkE] at h
    split at h
    · simp only [Bool.and_eq_true] at h
      exact s_bin h.1.1 (sndE a X W _ c h.1.2) (sndE b X W _ c h.2)
    · cases h
  | .neg a, X, W, pe, c, h => by
    simp only [chkE] at h
    split at h
    · exact s_neg (sndE a X W _ c h)
    · cases h
  | .cmp o a b, X, W, pe, c, h => by
    simp only [chkE] at h
    split at h
    · simp only [Bool.and_eq_true] at h
      exact s_cmp c h.1.1.1 h.1.1.2 (sndE a X W _ c h.1.2) (sndE b X W _ c h.2)
    · cases h
  | .chn o o' a b d, X, W, pe, c, h => by
    simp only [chkE] at h
    split at h
    · simp only [Bool.and_eq_true] at h
      obtain ⟨⟨⟨⟨⟨h1, h2⟩, h3⟩, h4⟩, h5⟩, h6⟩ := h
      exact s_chn c h1 h2 h3 (sndE a X W _ c h4) (sndE b X W _ c h5) (sndE d X W _ c h6)
    · cases h
  | .isn ng a, X, W, pe, c, h => by
    simp only [chkE] at h
    split at h
    · simp only [Bool.and_eq_true, Bool.not_eq_true'] at h
      obtain ⟨rfl, h⟩ := h
      exact s_isN (sndE a X W _ c h)
    · simp only [Bool.and_eq_true] at h
      obtain ⟨rfl, h⟩ := h
      exact s_notN (sndE a X W _ c h)
    · cases h
  | .isb ng k a, X, W, pe, c, h => by
    simp only [chkE] at h
    split at h
    · simp only [Bool.and_eq_true, Bool.not_eq_true', beq_iff_eq] at h
      obtain ⟨⟨rfl, rfl⟩, h⟩ := h
      exact s_isB (sndE a X W _ c h)
    · simp only [Bool.and_eq_true, beq_iff_eq] at h
      obtain ⟨⟨rfl, rfl⟩, h⟩ := h
      exact s_notB (sndE a X W _ c h)
    · cases h
  | .and a b, X, W, pe, c, h => by
    simp only [chkE] at h
    split at h
    · simp only [Bool.and_eq_true] at h
      exact s_and (sndE a X W _ c h.1) (sndE b X W _ c h.2)
    · cases h
  | .or a b, X, W, pe, c, h => by
    simp only [chkE] at h
    split at h
    · simp only [Bool.and_eq_true] at h
      exact s_or (sndE a X W _ c h.1) (sndE b X W _ c h.2)
    · cases h
  | .not a, X, W, pe, c, h => by
    simp only [chkE] at h
    split at h
    · exact s_not (sndE a X W _ c h)
    · cases h
  | .ite d a b, X, W, pe, c, h => by
    simp only [chkE] at h
    split at h
    · simp only [Bool.and_eq_true] at h
      exact s_ite (sndE d X W _ c h.1.1) (sndE a X W _ c h.1.2) (sndE b X W _ c h.2)
    · cases h
  | .fld a f, X, W, pe, c, h => by
    simp only [chkE] at h
    split at h
    · simp only [Bool.and_eq_true, decide_eq_true_eq] at h
      obtain ⟨⟨⟨h1, rfl⟩, h3⟩, h4⟩ := h
      exact s_fld c h3 (sndE a X W _ c h4)
    · cases h
  | .idx a b, X, W, pe, c, h => by
    simp only [chkE] at h
    split at h
    · simp only [Bool.and_eq_true] at h
      exact s_idx c h.1.1 (sndE a X W _ c h.1.2) (sndE b X W _ c h.2)
    · cases h
  | .slf a b, X, W, pe, c, h => by
    simp only [chkE] at h
    split at h
    · simp only [Bool.and_eq_true] at h
      exact s_slf (sndE a X W _ c h.1) (sndE b X W _ c h.2)
    · cases h
  | .slt a b, X, W, pe, c, h => by
    simp only [chkE] at h
    split at h
    · simp only [Bool.and_eq_true] at h
      exact s_slt (sndE a X W _ c h.1) (sndE b X W _ c h.2)
    · cases h
  | .rev a, X, W, pe, c, h => by
    simp only [chkE] at h
    split at h
    · exact s_rev (sndE a X W _ c h)
    · cases h
  | .call f es, X, W, pe, c, h => by
    simp only [chkE] at h
    split at h
    · simp only [Bool.and_eq_true, decide_eq_true_eq] at h
      have r := sndEs es X W _ c h.2
      exact s_call c h.1.1.1 h.1.1.2 h.1.2 r.len r.stars r.pa
    · cases h
  | .callv i es, X, W, pe, c, h => by
    simp only [chkE] at h
    split at h
    · simp only [Bool.and_eq_true, decide_eq_true_eq] at h
      have r := sndEs es X W _ c h.2
      exact s_callv c h.1.1.1 h.1.1.2 h.1.2 r.len r.stars r.pa
    · cases h
  | .mk k es, X, W, pe, c, h => by
    simp only [chkE] at h
    split at h
    · simp only [Bool.and_eq_true, decide_eq_true_eq] at h
      have r := sndEs es X W _ c h.2
      exact s_mk c h.1.1.1 h.1.1.2 h.1.2 r.len r.stars r.pa
    · cases h
  | .mth o m es, X, W, pe, c, h => by
    simp only [chkE] at h
    split at h
    · simp only [Bool.and_eq_true, decide_eq_true_eq] at h
      obtain ⟨⟨⟨⟨⟨⟨h1, rfl⟩, h3⟩, h4⟩, h5⟩, h6⟩, h7⟩ := h
      have r := sndEs es X W _ c h7
      exact s_mth c h3 h4 h5 r.len r.stars (sndE o X W _ c h6) r.pa
    · cases h
  | .bm m o es, X, W, pe, c, h => by
    simp only [chkE] at h
    split at h
    · simp only [Bool.and_eq_true, decide_eq_true_eq] at h
      obtain ⟨⟨⟨⟨⟨⟨rfl, h2⟩, h3⟩, h4⟩, h5⟩, h6⟩, h7⟩ := h
      have r := sndEs es X W _ c h7
      rename_i x y ap args p
      cases args with
      | nil => cases h5
      | cons e args => exact s_bm c h2 h3 h4 r.stars (sndE o X W _ c h6) r.pa
    · cases h
  | .bf b es, X, W, pe, c, h => by
    simp only [chkE] at h
    split at h
    · simp only [Bool.and_eq_true, decide_eq_true_eq] at h
      obtain ⟨⟨⟨h1, rfl⟩, h3⟩, h4⟩ := h
      have r := sndEs es X W _ c h4
      rename_i np args p
      cases args with
      | nil => cases h3
      | cons e args => exact s_bf c h1 r.stars r.pa
    · cases h
  | .isi a t, X, W, pe, c, h => by
    simp only [chkE] at h
    split at h
    · simp only [Bool.and_eq_true, decide_eq_true_eq, beq_iff_eq] at h
      obtain ⟨⟨⟨⟨⟨h1, rfl⟩, h3⟩, rfl⟩, h4⟩, h5⟩ := h
      exact s_isi c h1 h3 h4 (sndE a X W _ c h5)
    · cases h
  | .lc tg ow src es cond e, X, W, pe, c, h => by
    simp only [chkE] at h
    split at h
    · simp only [Bool.and_eq_true, decide_eq_true_eq] at h
      obtain ⟨⟨⟨⟨⟨⟨⟨h1, h2⟩, h3⟩, h4⟩, h5⟩, h6⟩, h7⟩, h8⟩ := h
      split at h5
      · rename_i xs ex
        exact s_lc c h1 (fun i m => by simpa using List.all_eq_true.mp h2 i m) h3 h4 ex (sndEs es X W xs c h5) (fun s H C cl fp => pts_of h6 (sndEs cond _ W0 _ (c.blk s H _ C cl fp) h7)) (fun s H C cl fp => sndE e _ W0 _ (c.blk s H _ C cl fp) h8)
      · cases h5
    · cases h
  | .lc2 tg ow src es tg1 ow1 src1 es1 e, X, W, pe, c, h => by
    simp only [chkE] at h
    split at h
    · simp only [Bool.and_eq_true] at h
      obtain ⟨⟨⟨⟨⟨⟨⟨⟨⟨⟨h1, h2⟩, h3⟩, h4⟩, h5⟩, h6⟩, h7⟩, h8⟩, h9⟩, h10⟩, h11⟩ := h
      split at h9
      · rename_i xs ex
        split at h10
        · rename_i xs1 ex1
          exact s_lc2 c h1 h2 h3 (fun i m => by simpa using List.all_eq_true.mp h4 i m) (fun i m => by simpa using List.all_eq_true.mp h5 i m) (fun i m => by simpa using List.all_eq_true.mp h6 i m) h7 h8 ex (sndEs es X W xs c h9) ex1
            (fun s H C cl fp => sndEs es1 _ W0 _ (c.blk s H _ C cl fp) h10) (fun s H C cl fp => sndE e _ W0 _ (c.blk s H _ C cl fp) h11)
        · cases h10
      · cases h9
    · cases h
theorem sndEs : ∀ (es : List E) (X : Cx) (W : WX) (xs : List Expr), Cok cfg nm ca fa n X W → chkEs nm cfg.tab X.N X.env.scope es xs = true → SndEs cfg ca n X W es xs
  | [], X, W, xs, c, h => by
    simp only [chkEs] at h
    rw [List.isEmpty_iff.mp h]
    exact es_nil
  | e :: es, X, W, [], c, h => by simp [chkEs] at h
  | e :: es, X, W, x :: xs, c, h => by
    simp only [chkEs, Bool.and_eq_true] at h
    exact es_cons h.1.1 (sndE e X W x c h.1.2) (sndEs es X W xs c h.2)
end
end
end Ev

end
section
set_option linter.all false
set_option maxRecDepth 100000
/-! Ev: whether a statement's text is the one that is run; small facts on stores. -/
namespace Ev
open PySem PySem.Spec L2

/-- the line of a row's head -/
def headLine (ts : List Expr) : Nat := match ts.head? with
  | some t => t.pos.line
  | none => 0
def loneName (sc : Scope) (line : Nat) : Expr → Option Str
  | .Name id pos => if sc.names.lookup id == some .local && pos.line == line then some id else none
  | _ => none
/-- which names are stored from the right -/
def swFn (sc : Scope) (tg value : Expr) : Option (Option (List Str)) := match tg, value with
  | .Tuple ts _ _, .Tuple vs _ _ =>
    if !(ts.length == 2 || ts.length == 3) || vs.length != ts.length then some none
    else if noStars vs = false then some none
    else if (ts.filterMap (loneName sc (headLine ts))).length != ts.length || (ts.filterMap (loneName sc (headLine ts))).eraseDups.length != (ts.filterMap (loneName sc (headLine ts))).length then some none
    else if vs.all (foldedForSure 8) then some none
    else if vs.all (constantsAlone 8) then none
    else some (some (ts.filterMap (loneName sc (headLine ts))))
  | .List _ _, .Tuple _ _ _ => none
  | _, _ => some none
theorem stars_any : ∀ vs : List Expr, (vs.any fun | .Starred .. => true | _ => false) = !noStars vs
  | [] => rfl
  | v :: vs => by
    have := stars_any vs
    unfold noStars at this ⊢
    rw [List.any_cons, List.all_cons, this]
    cases v <;> simp [noStar]
theorem sw_ok {env : PySem.Env} {tg value : Expr} {r : Option (List Str)} (hk : env.scope.kind = .function) (h : swFn env.scope tg value = some r) : swappedStores [tg] value env = pure r := by
  have hb : (env.blockKind != .function) = false := by unfold Env.blockKind; rw [hk]; rfl
  cases tg with
  | Tuple ts k p =>
    cases value with
    | Tuple vs k2 p2 =>
      unfold swappedStores
      simp only [pure_bind]
      unfold swFn at h
      simp only at h
      rw [hb, Bool.or_false]
      have hn : (ts.filterMap fun
          | .Name id pos => if env.kindOf id == some .local && pos.line == (ts.head?.map (·.pos.line)).getD 0 then some id else none
          | _ => none) = ts.filterMap (loneName env.scope (headLine ts)) := by
        have hl : (ts.head?.map (·.pos.line)).getD 0 = headLine ts := by unfold headLine; cases ts <;> rfl
        rw [hl]
        congr 1
      erw [stars_any vs, hn]
      split at h
      · cases h; rw [if_pos (by assumption)]
      · rw [if_neg (by assumption)]
        split at h
        · rename_i hs; cases h; rw [hs]; rfl
        · rename_i hs
          have hs : noStars vs = true := by simpa using hs
          rw [hs]
          simp only [Bool.not_true, Bool.false_eq_true, if_false]
          split at h
          · cases h; rw [if_pos (by assumption)]
          · rw [if_neg (by assumption)]
            split at h
            · cases h; rw [if_pos (by assumption)]
            · rw [if_neg (by assumption)]
              split at h
              · cases h
              · cases h; rw [if_neg (by assumption)]
    | _ => cases h; rfl
  | List ts p =>
    cases value <;> first | (cases h; rfl) | (simp [swFn] at h)
  | _ => cases h; rfl

/-- no comprehension at the top -/
def noComp : Expr → Bool
  | .ListComp _ _ _ _ => false
  | .SetComp _ _ _ _ => false
  | .DictComp _ _ _ _ _ => false
  | _ => true
/-- a value that may be stored to a name -/
def setVal : Expr → Bool
  | .SetComp _ _ _ _ => false
  | .DictComp _ _ _ _ _ => false
  | _ => true
/-- name = [..] that stores within the block's end -/
def swW (sc : Scope) (x : Str) (px : Pos) : Expr → Bool
  | .ListComp _ _ s p => sc.names.lookup x == some .local && px.line == p.line && !(s.names.any fun (n, k) => n == x && (k == .local || k == .cell))
  | _ => false
theorem swW_ok {env : PySem.Env} {x : Str} {px : Pos} {value : Expr} {l : Nat} (hk : env.scope.kind = .function) (hv : setVal value = true) : swapsWith value (some (.Name x px)) l env = pure (swW env.scope x px value) := by
  have hb : (env.blockKind == .function) = true := by unfold Env.blockKind; rw [hk]; rfl
  cases value <;> first | rfl | (simp [setVal] at hv; done) | skip
  unfold swapsWith
  show (pure (env.blockKind == .function && _ && _ && _) : Sem Bool) = _
  rw [hb, Bool.true_and]
  rfl
theorem swNo {env : PySem.Env} {value : Expr} {t : Option Expr} {l : Nat} (hv : noComp value = true) : swapsWith value t l env = pure false := by
  cases value <;> first | rfl | (simp [noComp] at hv)
theorem swTup {env : PySem.Env} {value : Expr} {t : Expr} {l : Nat} (ht : ∀ x p, t ≠ .Name x p) : swapsWith value (some t) l env = pure false := by
  cases value <;> first | rfl | (cases t <;> first | rfl | exact absurd rfl (ht _ _))
/-- a name that is stored here -/
def loc (sc : Scope) (x : Str) : Bool := match sc.names.lookup x with
  | some .local => true
  | some .cell => true
  | _ => false
def isAug : Op → Bool
  | .add => true
  | .sub => true
  | _ => false
section
variable (nm : Nm) (tab N : List Str) (A : Nat → Bool)
mutual
def chkS (sc : Scope) : S → Stmt → Bool
  | .pass, st => match st with
    | .Pass _ => true
    | .Expr (.Constant (.str _) _ _) _ => true
    | _ => false
  | .expr e, st => match st with
    | .Expr pe _ => noComp pe && chkE nm tab N sc e pe
    | _ => false
  | .ret e, st => match st with
    | .Return (some pe) _ => chkE nm tab N sc e pe
    | _ => false
  | .retn, st => match st with
    | .Return none _ => true
    | _ => false
  | .set i e, st => match st with
    | .Assign [.Name x _] pe _ => decide (N[i]? = some x) && loc sc x && A i && setVal pe && chkE nm tab N sc e pe
    | _ => false
  | .setT tg e, st => match st with
    | .Assign [t] pe _ => isTup t && (slots tg).all A && decide (swFn sc t pe = some none) && chkT tab N sc (fun _ => true) tg t && chkE nm tab N sc e pe
    | _ => false
  | .par i j a b, st => match st with
    | .Assign [.Tuple [.Name x p, .Name y p'] k q] (.Tuple [pa, pb] k' q') _ => decide (N[i]? = some x) && decide (N[j]? = some y) && !(i == j) && own sc x && own sc y && A i && A j && noStar pa && noStar pb && decide (swFn sc (.Tuple [.Name x p, .Name y p'] k q) (.Tuple [pa, pb] k' q') = some (some [x, y])) && chkE nm tab N sc a pa && chkE nm tab N sc b pb
    | _ => false
  | .setF o f e, st => match st with
    | .Assign [.Attribute po y _] pe _ => decide (f < tab.length) && decide (y = tx tab f) && chkE nm tab N sc o po && chkE nm tab N sc e pe
    | _ => false
  | .setI o i e, st => match st with
    | .Assign [.Subscript po pi _] pe _ => tame pi && noComp pe && chkE nm tab N sc o po && chkE nm tab N sc i pi && chkE nm tab N sc e pe
    | _ => false
  | .aug i o e, st => match st with
    | .AugAssign (.Name x _) op pe _ => decide (N[i]? = some x) && loc sc x && A i && isOp o op && isAug o && chkE nm tab N sc e pe
    | _ => false
  | .augF a f o e, st => match st with
    | .AugAssign (.Attribute pa y _) op pe _ => decide (f < tab.length) && decide (y = tx tab f) && isOp o op && isAug o && chkE nm tab N sc a pa && chkE nm tab N sc e pe
    | _ => false
  | .ite c a b, st => match st with
    | .If pc as bs _ => chkE nm tab N sc c pc && chkB sc a as && chkB sc b bs
    | _ => false
  | .for tg src es b, st => match st with
    | .For t it body [] _ => (slots tg).all A && tame it && chkT tab N sc (fun _ => true) tg t && (match srcArgs sc src t it with | some xs => chkEs nm tab N sc es xs | none => false) && chkB sc b body
    | _ => false
  | .whl c b, st => match st with
    | .While pc body [] _ => chkE nm tab N sc c pc && chkB sc b body
    | _ => false
  | .brk, st => match st with
    | .Break _ => true
    | _ => false
  | .cnt, st => match st with
    | .Continue _ => true
    | _ => false
  | .raise _, _ => false
  | .never, _ => true
def chkB (sc : Scope) : List S → List Stmt → Bool
  | [], sts => sts.isEmpty
  | s :: r, sts => match sts with
    | [] => false
    | st :: rest => chkS sc s st && chkB sc r rest
end
end
end Ev

end
section
set_option linter.all false
set_option maxRecDepth 100000
/-! Ev: statements keep what the evaluator says. -/
namespace Ev
open PySem PySem.Spec L2

/-- the slots outside A stay -/
def ApA (A : Nat → Bool) (σ σ' : L2.St) : Prop := σ'.length = σ.length ∧ ∀ j, A j = false → σ'[j]? = σ[j]?
theorem ApA.refl {A : Nat → Bool} {σ : L2.St} : ApA A σ σ := ⟨rfl, fun _ _ => rfl⟩
theorem ApA.trans {A : Nat → Bool} {σ σ' σ2 : L2.St} (a : ApA A σ σ') (b : ApA A σ' σ2) : ApA A σ σ2 := ⟨b.1.trans a.1, fun j h => (b.2 j h).trans (a.2 j h)⟩
theorem ApA.set {A : Nat → Bool} {σ : L2.St} {i : Nat} {v : Option V} (h : A i = true) : ApA A σ (σ.set i v) := ⟨by simp, fun j hj => List.getElem?_set_ne (fun z => by rw [z, hj] at h; cases h)⟩
theorem Apart.ap {A : Nat → Bool} {σ σ' : L2.St} {l : List Nat} (a : Apart σ σ' l) (h : l.all A = true) : ApA A σ σ' := ⟨a.1, fun j hj => a.2 j fun m => by
  have := List.all_eq_true.mp h j m
  rw [hj] at this; cases this⟩
section
variable {cfg : Cfg} {nm : Nm} {ca fa : Nat → Addr} {n : Nat} {X : Cx} {W : WX} {A : Nat → Bool} {pos : Pos}
theorem SO.weak {tab : List Str} {K : PySem.W.Frag} {α : Type} {m : R α} {W W' : XK} {as : List Addr} {H : Hp} {Φ : α → LH → List Addr → Hp → Prop} (h : SO tab K ca m W as H Φ) (w : ∀ c d H, W c d H → W' c d H) : SO tab K ca m W' as H Φ := by
  cases m with
  | bad => exact h
  | exc c L' => exact fun as' H' x r => w _ _ _ (h as' H' x r)
  | ok v L' => exact h
variable (cfg) in
def FlR (K : PySem.W.Frag) (D : Ends) (A : Nat → Bool) (σ : L2.St) : Fl → LH → List Addr → Hp → Prop := fun fl _ as' H' => match fl with
  | .nx ρ' => ∀ σ', RepE cfg.tab K as' H' ρ' σ' → ApA A σ σ' → D.nx σ' H'
  | .brk ρ' => ∀ σ', RepE cfg.tab K as' H' ρ' σ' → ApA A σ σ' → D.bk σ' H'
  | .cnt ρ' => ∀ σ', RepE cfg.tab K as' H' ρ' σ' → ApA A σ σ' → D.ct σ' H'
  | .ret v => ∀ z, RepD cfg.tab K as' H' v z → D.rt z H'
def wS (W : WX) (A : Nat → Bool) (σ : L2.St) : XK := fun c d H' => ∀ σ', ApA A σ σ' → W c d σ' H'
theorem wS_here {σ : L2.St} : ∀ c d H, wS W A σ c d H → W c d σ H := fun c d H h => h σ .refl
theorem wS_on {σ σ' : L2.St} (a : ApA A σ σ') : ∀ c d H, wS W A σ c d H → wS W A σ' c d H := fun c d H h σ2 b => h σ2 (a.trans b)
abbrev evst (cfg : Cfg) (n : Nat) := evS cfg (calls cfg n).1 (calls cfg n).2
abbrev evbl (cfg : Cfg) (n : Nat) := evB cfg (calls cfg n).1 (calls cfg n).2
variable (cfg ca n) in
def tS (K : PySem.W.Frag) (A : Nat → Bool) (s : S) (W : WX) : TS := fun D σ H => ∃ ρ as L, RepE cfg.tab K as H ρ σ ∧ Rp cfg.tab K ca as L H ∧ SO cfg.tab K ca (evst cfg n s ρ L) (wS W A σ) as H (FlR cfg K D A σ)
variable (cfg ca n) in
def tB (K : PySem.W.Frag) (A : Nat → Bool) (b : List S) (W : WX) : TS := fun D σ H => ∃ ρ as L, RepE cfg.tab K as H ρ σ ∧ Rp cfg.tab K ca as L H ∧ SO cfg.tab K ca (evbl cfg n b ρ L) (wS W A σ) as H (FlR cfg K D A σ)
theorem _root_.L2.PS.imp {X : Cx} {e : Stmt} {t t' : TS} (h : PS X e t) (i : ∀ D σ H, t' D σ H → t D σ H) : PS X e t' := ⟨fun pins s σ H D I q => h.run pins s σ H D I (i D σ H q)⟩
theorem _root_.L2.PSs.imp {X : Cx} {e : List Stmt} {t t' : TS} (h : PSs X e t) (i : ∀ D σ H, t' D σ H → t D σ H) : PSs X e t' := ⟨fun pins s σ H D I q => h.run pins s σ H D I (i D σ H q)⟩
structure Sok (cfg : Cfg) (nm : Nm) (ca fa : Nat → Addr) (n : Nat) (X : Cx) (W : WX) : Prop where
  c : Cok cfg nm ca fa n X W
  fn : ∀ x, X.fn x = true
  fr : X.env.scope.kind = .function

theorem swSole {env : PySem.Env} {value : Expr} {t : Expr} {l : Nat} (ht : ∀ x p, t ≠ .Name x p) : swapsWithSole [t] value l env = pure false := swTup ht
/-- a statement that begins with an expression -/
theorem st_e {e : E} {D : Ends} {σ : L2.St} {H : Hp} {s : S} {f : Env → Ev.D → LH → R Fl} (he : ∀ ρ L, evst cfg n s ρ L = (ev cfg n e ρ L).bind fun v L => f ρ v L) (h : tS cfg ca n X.K A s W D σ H) :
    tE cfg X.K ca n e W σ H fun x H1 => ∃ ρ as L v, RepE cfg.tab X.K as H1 ρ σ ∧ Rp cfg.tab X.K ca as L H1 ∧ RepD cfg.tab X.K as H1 v x ∧ SO cfg.tab X.K ca (f ρ v L) (wS W A σ) as H1 (FlR cfg X.K D A σ) := by
  obtain ⟨ρ, as, L, hρ, r, h⟩ := h
  have h := h.cast (he ρ L)
  exact ⟨ρ, as, L, hρ, r, (h.bind.weak wS_here).mono fun v L1 as1 H1 x1 r1 h1 z hz => ⟨ρ, as1, L1, v, hρ.ext r x1, r1, hz, h1⟩⟩
theorem nx_here {D : Ends} {σ : L2.St} {H : Hp} {ρ : Env} {as : List Addr} {L : LH} (hρ : RepE cfg.tab X.K as H ρ σ) (r : Rp cfg.tab X.K ca as L H) (h : SO cfg.tab X.K ca (.ok (.nx ρ) L) (wS W A σ) as H (FlR cfg X.K D A σ)) : D.nx σ H := h.here r σ hρ .refl
theorem p_pass : PS X (.Pass pos) (tS cfg ca n X.K A .pass W) := ps_pass.imp fun D σ H ⟨ρ, as, L, hρ, r, h⟩ => by
  simp only [evst, evS] at h
  exact nx_here hρ r h
theorem p_doc {x j p} : PS X (.Expr (.Constant (.str x) j p) pos) (tS cfg ca n X.K A .pass W) := ps_doc.imp fun D σ H ⟨ρ, as, L, hρ, r, h⟩ => by
  simp only [evst, evS] at h
  exact nx_here hρ r h
theorem p_brk : PS X (.Break pos) (tS cfg ca n X.K A .brk W) := ps_break.imp fun D σ H ⟨ρ, as, L, hρ, r, h⟩ => by
  simp only [evst, evS] at h
  exact h.here r σ hρ .refl
theorem p_cnt : PS X (.Continue pos) (tS cfg ca n X.K A .cnt W) := ps_continue.imp fun D σ H ⟨ρ, as, L, hρ, r, h⟩ => by
  simp only [evst, evS] at h
  exact h.here r σ hρ .refl
theorem p_expr {e : E} {pe : Expr} (hs : noComp pe = true) (he : SndE cfg ca n X W e pe) : PS X (.Expr pe pos) (tS cfg ca n X.K A (.expr e) W) :=
  (ps_expr he.1 (swNo hs)).imp fun D σ H h => by
    obtain ⟨ρ, as, L, hρ, r, q⟩ := st_e (e := e) (f := fun ρ _ L => .ok (.nx ρ) L) (fun ρ L => by simp only [evst, evS, ev] <;> rfl) h
    exact ⟨ρ, as, L, hρ, r, q.mono fun v L1 as1 H1 x1 r1 h1 z hz => by
      obtain ⟨ρ2, as2, L2, v2, hρ2, r2, _, h2⟩ := h1 z hz
      exact nx_here hρ2 r2 h2⟩
theorem p_ret {e : E} {pe : Expr} (he : SndE cfg ca n X W e pe) : PS X (.Return (some pe) pos) (tS cfg ca n X.K A (.ret e) W) :=
  (ps_ret he.1).imp fun D σ H h => by
    obtain ⟨ρ, as, L, hρ, r, q⟩ := st_e (e := e) (f := fun _ v L => .ok (.ret v) L) (fun ρ L => by simp only [evst, evS, ev] <;> rfl) h
    exact ⟨ρ, as, L, hρ, r, q.mono fun v L1 as1 H1 x1 r1 h1 z hz => by
      obtain ⟨ρ2, as2, L2, v2, hρ2, r2, hz2, h2⟩ := h1 z hz
      exact h2.here r2 z hz2⟩
theorem p_retn : PS X (.Return none pos) (tS cfg ca n X.K A .retn W) := ps_retN.imp fun D σ H ⟨ρ, as, L, hρ, r, h⟩ => by
  simp only [evst, evS] at h
  exact h.here r .non rfl
theorem own_of {sc : Scope} {x : Str} (h : own sc x = true) : sc.names.lookup x = some .local := by
  unfold own at h
  split at h
  · assumption
  · cases h
theorem loc_of {sc : Scope} {x : Str} (h : loc sc x = true) : Loc sc x := by
  unfold loc at h
  split at h
  · exact .inl (by assumption)
  · exact .inr (by assumption)
  · cases h
/-- name = e, however it is done -/
theorem set_im {i : Nat} {e : E} (hA : A i = true) {D : Ends} {σ : L2.St} {H : Hp} (h : tS cfg ca n X.K A (.set i e) W D σ H) : tAsg (tE cfg X.K ca n e W) (gName i) D σ H := by
  obtain ⟨ρ, as, L, hρ, r, q⟩ := st_e (e := e) (f := fun ρ v L => .ok (.nx (ρ.set i (some v))) L) (fun ρ L => by simp only [evst, evS, ev] <;> rfl) h
  exact ⟨ρ, as, L, hρ, r, q.mono fun v L1 as1 H1 x1 r1 h1 z hz => by
    obtain ⟨ρ2, as2, L2, v2, hρ2, r2, hz2, h2⟩ := h1 z hz
    exact h2.here r2 _ (hρ2.set hz2) (.set hA)⟩
theorem p_set (c : Sok cfg nm ca fa n X W) {i : Nat} {e : E} {pe : Expr} {x : Str} {px : Pos} (hi : X.N[i]? = some x) (hx : loc X.env.scope x = true) (hA : A i = true) (hv : setVal pe = true) (hw : swW X.env.scope x px pe = false) (he : SndE cfg ca n X W e pe) :
    PS X (.Assign [.Name x px] pe pos) (tS cfg ca n X.K A (.set i e) W) :=
  (ps_set c.c.nd hi (loc_of hx) he.1 (by rw [swW_ok c.fr hv, hw]) (.inl (c.fn x))).imp fun D σ H h => set_im hA h
theorem p_setT (c : Sok cfg nm ca fa n X W) {tg : Tg} {e : E} {t pe : Expr} (ht : isTup t = true) (hA : (slots tg).all A = true) (hsw : swFn X.env.scope t pe = some none) (hg : chkT cfg.tab X.N X.env.scope (fun _ => true) tg t = true) (he : SndE cfg ca n X W e pe) :
    PS X (.Assign [t] pe pos) (tS cfg ca n X.K A (.setT tg e) W) := by
  obtain ⟨es, k, p, rfl⟩ := isTup_of ht
  refine (ps_asg he.1 (sndT c.c (fun x _ => c.fn x) tg _ hg) (swSole fun _ _ h => by cases h) (sw_ok c.fr hsw) rfl).imp fun D σ H h => ?_
  obtain ⟨ρ, as, L, hρ, r, q⟩ := st_e (e := e) (f := fun ρ v L => (asg cfg tg v ρ L).bind fun ρ' L => .ok (.nx ρ') L) (fun ρ L => by simp only [evst, evS, ev] <;> rfl) h
  refine ⟨ρ, as, L, hρ, r, q.mono fun v L1 as1 H1 x1 r1 h1 z hz => ?_⟩
  obtain ⟨ρ2, as2, L2, v2, hρ2, r2, hz2, h2⟩ := h1 z hz
  exact ⟨_, v2, ρ2, as2, L2, hz2, hρ2, r2, h2.bind.mono fun ρ3 L3 as3 H3 x3 r3 h3 σ3 hσ3 ap => h3.here r3 σ3 hσ3 (ap.ap hA)⟩
theorem p_par (c : Sok cfg nm ca fa n X W) {i j : Nat} {a b : E} {pa pb : Expr} {x y : Str} {p p' q q' k k'} (hi : X.N[i]? = some x) (hj : X.N[j]? = some y) (hij : i ≠ j) (hx : own X.env.scope x = true) (hy : own X.env.scope y = true) (hA : A i = true) (hA2 : A j = true) (hs : noStar pa = true) (hs2 : noStar pb = true)
    (hsw : swFn X.env.scope (.Tuple [.Name x p, .Name y p'] k q) (.Tuple [pa, pb] k' q') = some (some [x, y])) (ha : SndE cfg ca n X W a pa) (hb : SndE cfg ca n X W b pb) :
    PS X (.Assign [.Tuple [.Name x p, .Name y p'] k q] (.Tuple [pa, pb] k' q') pos) (tS cfg ca n X.K A (.par i j a b) W) := by
  have r := es_cons hs ha (es_cons hs2 hb es_nil)
  refine (ps_par c.c.calm c.c.nd hi hj hij (own_of hx) (own_of hy) r.pa (sw_ok c.fr hsw) (swSole fun _ _ h => by cases h)).imp fun D σ H ⟨ρ, as, L, hρ, rp, h⟩ => ?_
  simp only [evst, evS] at h
  have h : SO cfg.tab X.K ca ((evs cfg n [a, b] ρ L).bind fun vs L => match vs with
    | [x, y] => .ok (.nx ((ρ.set i (some x)).set j (some y))) L
    | _ => .bad) (wS W A σ) as H (FlR cfg X.K D A σ) := by
    simp only [evs, evEs, Ev.R.bind_assoc, R.bind_ok]
    exact h
  obtain ⟨ρ, as, L, hρ, rp, h⟩ := tEs_len (Q := fun xs H1 => ∃ ρ as L vs, RepE cfg.tab X.K as H1 ρ σ ∧ Rp cfg.tab X.K ca as L H1 ∧ RepDs cfg.tab X.K as H1 vs xs ∧ SO cfg.tab X.K ca (match vs with
    | [x, y] => .ok (.nx ((ρ.set i (some x)).set j (some y))) L
    | _ => .bad) (wS W A σ) as H1 (FlR cfg X.K D A σ)) ⟨ρ, as, L, hρ, rp, (h.bind.weak wS_here).mono fun vs L1 as1 H1 x1 r1 h1 xs hxs => ⟨ρ, as1, L1, vs, hρ.ext rp x1, r1, hxs, h1⟩⟩
  refine ⟨ρ, as, L, hρ, rp, h.mono fun vs L1 as1 H1 x1 r1 h1 xs hxs => ?_⟩
  obtain ⟨_, ρ2, as2, L2, vs2, hρ2, r2, hx2, h2⟩ := h1 xs hxs
  split at h2
  · obtain ⟨z1, z2, rfl, g1, g2⟩ := repDs2 hx2
    exact ⟨z1, z2, rfl, h2.here r2 _ ((hρ2.set g1).set g2) ((ApA.set hA).trans (.set hA2))⟩
  · exact h2.elim
theorem p_setF (c : Sok cfg nm ca fa n X W) {o e : E} {f : Nat} {po pe : Expr} {p : Pos} (ho : SndE cfg ca n X W o po) (he : SndE cfg ca n X W e pe) : PS X (.Assign [.Attribute po (tx cfg.tab f) p] pe pos) (tS cfg ca n X.K A (.setF o f e) W) := by
  refine (ps_fld ho.1 he.1 (swTup fun _ _ h => by cases h)).imp fun D σ H h => ?_
  obtain ⟨ρ, as, L, hρ, r, q⟩ := st_e (e := e) (f := fun ρ v L => (ev cfg n o ρ L).bind fun x L => match setFR cfg L x f v with
    | some L' => .ok (.nx ρ) L'
    | none => .bad) (fun ρ L => by simp only [evst, evS, ev] <;> rfl) h
  refine ⟨ρ, as, L, hρ, r, q.mono fun v L1 as1 H1 x1 r1 h1 z hz => ?_⟩
  obtain ⟨ρ2, as2, L2, v2, hρ2, r2, hz2, h2⟩ := h1 z hz
  refine ⟨ρ2, as2, L2, hρ2, r2, (h2.bind.weak wS_here).mono fun x L3 as3 H3 x3 r3 h3 u hu => ?_⟩
  cases es : setFR cfg L3 x f v2 with
  | none => rw [es] at h3; exact h3.elim
  | some L4 =>
    rw [es] at h3
    obtain ⟨p, C, dx, gs, rfl, g1, g2, g3, g4, g5, g6⟩ := setF_any c.c.top.T c.c.top.C r3 hu (hz2.ext r2 x3) es
    exact ⟨p, C, dx, gs, rfl, g1, g2, g3, g4, h3 _ _ g5 g6 σ ((hρ2.ext r2 x3).ext r3 g5) .refl⟩
theorem p_setI (c : Sok cfg nm ca fa n X W) {o i e : E} {po pi pe : Expr} {p : Pos} (ht : tame pi = true) (hv : noComp pe = true) (ho : SndE cfg ca n X W o po) (hi : SndE cfg ca n X W i pi) (he : SndE cfg ca n X W e pe) : PS X (.Assign [.Subscript po pi p] pe pos) (tS cfg ca n X.K A (.setI o i e) W) := by
  have g := pg_sub (pos := p) ho.1 hi.1 (set_any (ca := ca) c.c.xo c.c.top.T) (fun v => by cases pi <;> first | rfl | (simp [tame] at ht))
  refine (ps_asg he.1 g (swSole fun _ _ h => by cases h) (sw_ok c.fr (by unfold swFn; split <;> first | rfl | contradiction)) rfl).imp fun D σ H h => ?_
  obtain ⟨ρ, as, L, hρ, r, q⟩ := st_e (e := e) (f := fun ρ v L => (ev cfg n o ρ L).bind fun x L => (ev cfg n i ρ L).bind fun y L => match setIR L x y v with
    | some L' => .ok (.nx ρ) L'
    | none => .bad) (fun ρ L => by simp only [evst, evS, ev] <;> rfl) h
  refine ⟨ρ, as, L, hρ, r, q.mono fun v L1 as1 H1 x1 r1 h1 z hz => ?_⟩
  obtain ⟨ρ2, as2, L2, v2, hρ2, r2, hz2, h2⟩ := h1 z hz
  refine ⟨ρ2, as2, L2, hρ2, r2, (h2.bind.weak wS_here).mono fun x L3 as3 H3 x3 r3 h3 u hu => ?_⟩
  refine ⟨ρ2, as3, L3, hρ2.ext r2 x3, r3, (h3.bind.weak wS_here).mono fun y L4 as4 H4 x4 r4 h4 w hw => ?_⟩
  cases es : setIR L4 x y v2 with
  | none => rw [es] at h4; exact h4.elim
  | some L5 =>
    rw [es] at h4
    refine ⟨as4, L4, L5, x, y, v2, r4, hu.ext r3 x4, hw, (hz2.ext r2 x3).ext r3 x4, es, fun H5 x5 r5 => ?_⟩
    exact h4 _ _ x5 r5 σ (((hρ2.ext r2 x3).ext r3 x4).ext r4 x5) .refl
end
end Ev

end
section
set_option linter.all false
set_option maxRecDepth 100000
/-! Ev: the other statements; loops; blocks. -/
namespace Ev
open PySem PySem.Spec L2
section
variable {cfg : Cfg} {nm : Nm} {ca fa : Nat → Addr} {n : Nat} {X : Cx} {W : WX} {A : Nat → Bool} {pos : Pos}
theorem p_setLc (c : Sok cfg nm ca fa n X W) {i : Nat} {x : Str} {px lpos : Pos} {tg : Tg} {ow : List Nat} {src : Src} {es cond : List E} {e : E} {t it elt : Expr} {ifs xs : List Expr} {scope : Scope} (hi : X.N[i]? = some x) (hx : own X.env.scope x = true) (hA : A i = true)
    (hw : swW X.env.scope x px (.ListComp elt [⟨t, it, ifs, 0⟩] scope lpos) = true) (hb : blkC X.N X.env.scope scope (ownOf X.N ow) = true) (hsl : ∀ i ∈ slots tg, i ∈ ow) (ht : tame it = true)
    (hg : chkT cfg.tab X.N (relS scope X.env.scope) (fnOf scope) tg t = true) (hxs : srcArgs X.env.scope src t it = some xs) (r : SndEs cfg ca n X W es xs)
    (hc : ∀ (s : Shared) (H : Hp) (C : Addr) (cl : List (Str × Addr)) (fp : List Addr), PTs (X.blk s H scope (compEnvC scope cl C X.env) fp) ifs (tC' cfg X.K ca n cond W0))
    (he : ∀ (s : Shared) (H : Hp) (C : Addr) (cl : List (Str × Addr)) (fp : List Addr), SndE cfg ca n (X.blk s H scope (compEnvC scope cl C X.env) fp) W0 e elt) :
    PS X (.Assign [.Name x px] (.ListComp elt [⟨t, it, ifs, 0⟩] scope lpos) pos) (tS cfg ca n X.K A (.set i (.lc tg ow src es cond e)) W) := by
  have hg' : ∀ (s : Shared) (H : Hp) (C : Addr) (cl : List (Str × Addr)) (fp : List Addr), PG (X.blk s H scope (compEnvC scope cl C X.env) fp) t (gT cfg X.K ca tg) := fun s H C cl fp => sndT (c.c.blk s H scope C cl fp) (f := fnOf scope) (fun x hx => hx) tg t hg
  have he' : ∀ (s : Shared) (H : Hp) (C : Addr) (cl : List (Str × Addr)) (fp : List Addr), PE (X.blk s H scope (compEnvC scope cl C X.env) fp) elt (tE cfg X.K ca n e W0) := fun s H C cl fp => (he s H C cl fp).1
  have lc := ps_setLc (py := px) (spos := pos) (pos := lpos) c.c.calm c.c.nd hi (own_of hx) (by rw [swW_ok c.fr rfl, hw]) (s_src c.c hxs r.stars r.len r.pa fun e x h1 h2 => (r.one e x h1 h2).1) (blkOk_by hb) hg' hc he' (tame_folded ht)
  rw [ownOf_snd] at lc
  exact lc.imp fun D σ H h => lc_im hsl (set_im hA h)
theorem p_setLc2 (c : Sok cfg nm ca fa n X W) {i : Nat} {x : Str} {px lpos : Pos} {tg tg1 : Tg} {ow ow1 : List Nat} {src src1 : Src} {es es1 : List E} {e : E} {t it t1 it1 elt : Expr} {xs xs1 : List Expr} {scope : Scope} (hi : X.N[i]? = some x) (hx : own X.env.scope x = true) (hA : A i = true)
    (hw : swW X.env.scope x px (.ListComp elt [⟨t, it, [], 0⟩, ⟨t1, it1, [], 0⟩] scope lpos) = true) (hb : blkC X.N X.env.scope scope (ownOf X.N ow) = true) (ht : tame it = true) (ht1 : tame it1 = true)
    (hv : ∀ i ∈ ow1, i ∈ ow) (hsl : ∀ i ∈ slots tg, i ∈ ow) (hsl1 : ∀ i ∈ slots tg1, i ∈ ow1)
    (hg : chkT cfg.tab X.N (relS scope X.env.scope) (fnOf scope) tg t = true) (hg1 : chkT cfg.tab X.N (relS scope X.env.scope) (fnOf scope) tg1 t1 = true) (hxs : srcArgs X.env.scope src t it = some xs) (r : SndEs cfg ca n X W es xs) (hx1 : srcArgs (relS scope X.env.scope) src1 t1 it1 = some xs1)
    (r1 : ∀ (s : Shared) (H : Hp) (C : Addr) (cl : List (Str × Addr)) (fp : List Addr), SndEs cfg ca n (X.blk s H scope (compEnvC scope cl C X.env) fp) W0 es1 xs1)
    (he : ∀ (s : Shared) (H : Hp) (C : Addr) (cl : List (Str × Addr)) (fp : List Addr), SndE cfg ca n (X.blk s H scope (compEnvC scope cl C X.env) fp) W0 e elt) :
    PS X (.Assign [.Name x px] (.ListComp elt [⟨t, it, [], 0⟩, ⟨t1, it1, [], 0⟩] scope lpos) pos) (tS cfg ca n X.K A (.set i (.lc2 tg ow src es tg1 ow1 src1 es1 e)) W) := by
  have hg' : ∀ (s : Shared) (H : Hp) (C : Addr) (cl : List (Str × Addr)) (fp : List Addr), PG (X.blk s H scope (compEnvC scope cl C X.env) fp) t (gT cfg X.K ca tg) := fun s H C cl fp => sndT (c.c.blk s H scope C cl fp) (f := fnOf scope) (fun x hx => hx) tg t hg
  have hg1' : ∀ (s : Shared) (H : Hp) (C : Addr) (cl : List (Str × Addr)) (fp : List Addr), PG (X.blk s H scope (compEnvC scope cl C X.env) fp) t1 (gT cfg X.K ca tg1) := fun s H C cl fp => sndT (c.c.blk s H scope C cl fp) (f := fnOf scope) (fun x hx => hx) tg1 t1 hg1
  have he' : ∀ (s : Shared) (H : Hp) (C : Addr) (cl : List (Str × Addr)) (fp : List Addr), PE (X.blk s H scope (compEnvC scope cl C X.env) fp) elt (tE cfg X.K ca n e W0) := fun s H C cl fp => (he s H C cl fp).1
  have hc : ∀ (s : Shared) (H : Hp) (C : Addr) (cl : List (Str × Addr)) (fp : List Addr), PTs (X.blk s H scope (compEnvC scope cl C X.env) fp) [] (tC' cfg X.K ca n [] W0) := fun s H C cl fp => pts_of (by simp) es_nil
  have hi1 : ∀ (s : Shared) (H : Hp) (C : Addr) (cl : List (Str × Addr)) (fp : List Addr), PI (X.blk s H scope (compEnvC scope cl C X.env) fp) t1 it1 (tSrc cfg ca n X W0 src1 es1) := fun s H C cl fp =>
    s_src (c.c.blk s H scope C cl fp) hx1 (r1 s H C cl fp).stars (r1 s H C cl fp).len (r1 s H C cl fp).pa fun e x h1 h2 => ((r1 s H C cl fp).one e x h1 h2).1
  have lc := ps_setLc2 (py := px) (spos := pos) (pos := lpos) (vs1 := ow1) c.c.calm c.c.nd hi (own_of hx) (by rw [swW_ok c.fr rfl, hw]) (s_src c.c hxs r.stars r.len r.pa fun e x h1 h2 => (r.one e x h1 h2).1) (blkOk_by hb) (by rw [ownOf_snd]; exact hv) hg' hc hi1 hg1' hc he' (tame_folded ht) (fun env => tame_folded ht1)
  rw [ownOf_snd] at lc
  exact lc.imp fun D σ H h => lc2_im hsl hsl1 (set_im hA h)
theorem augI_ok {o : Op} {x z : Int} {v : D} (h : augI o x v = some z) : ∃ y, v = .int y ∧ z = (match o with | .add => x + y | _ => x - y) := by
  cases v with
  | int y =>
    refine ⟨y, rfl, ?_⟩
    cases o <;> first | (exact (Option.some.inj h).symm) | (cases h)
  | _ => cases h
theorem p_aug (c : Sok cfg nm ca fa n X W) {i : Nat} {o : Op} {op : Operator} {e : E} {pe : Expr} {x : Str} {px : Pos} (hi : X.N[i]? = some x) (hx : loc X.env.scope x = true) (hA : A i = true) (ho : isOp o op = true) (ho2 : isAug o = true) (he : SndE cfg ca n X W e pe) :
    PS X (.AugAssign (.Name x px) op pe pos) (tS cfg ca n X.K A (.aug i o e) W) := by
  have main : ∀ (f : Int → Int → Int), (∀ x v z, augI o x v = some z → ∃ y, v = .int y ∧ z = f x y) → ∀ D σ H, tS cfg ca n X.K A (.aug i o e) W D σ H → tAug i (tE cfg X.K ca n e W) (ipI f) D σ H := by
    intro f hf D σ H ⟨ρ, as, L, hρ, r, h⟩
    simp only [evst, evS] at h
    split at h
    · rename_i k ek
      obtain ⟨v0, e0, hv0⟩ := hρ.2 i _ ek
      refine ⟨v0, e0, ρ, as, L, hρ, r, (h.bind.weak wS_here).mono fun v L1 as1 H1 x1 r1 h1 z hz => ?_⟩
      split at h1
      · obtain ⟨y, rfl, rfl⟩ := hf _ _ _ (by assumption)
        exact ⟨_, _, hv0, hz, h1.here r1 _ ((hρ.ext r x1).set rfl) (.set hA)⟩
      · exact h1.elim
    · exact h.elim
  cases o with
  | add =>
    have e : op = .Add := by cases op <;> first | rfl | (simp [isOp] at ho)
    subst e
    exact (ps_aug c.c.nd hi (loc_of hx) he.1 ip_add (.inl (c.fn x))).imp (main _ fun x v z h => augI_ok h)
  | sub =>
    have e : op = .Sub := by cases op <;> first | rfl | (simp [isOp] at ho)
    subst e
    exact (ps_aug c.c.nd hi (loc_of hx) he.1 ip_sub (.inl (c.fn x))).imp (main _ fun x v z h => augI_ok h)
  | _ => cases ho2
theorem cls_of {as : List Addr} {L : LH} {H : Hp} {d : Ev.D} {p C dx : Addr} {gs : List (Str × V)} {k : Nat} (r : Rp cfg.tab X.K ca as L H) (hd : RepD cfg.tab X.K as H d (.ref p)) (e : clsR L d = some k) (h : H p = some (.ins C dx gs)) : C = ca k := by
  unfold clsR at e
  split at e
  · obtain ⟨q, eq, e2⟩ := lst_ref r hd
    cases e2
    split at e
    · cases e
      obtain ⟨dx2, gs2, h2, _⟩ := r.ins (by assumption) eq
      rw [h] at h2
      cases h2
      rfl
    · cases e
  · cases e
theorem p_augF (c : Sok cfg nm ca fa n X W) {f : Nat} {o : Op} {op : Operator} {a e : E} {pa pe : Expr} {px : Pos} (ho : isOp o op = true) (ho2 : isAug o = true) (ha : SndE cfg ca n X W a pa) (he : SndE cfg ca n X W e pe) :
    PS X (.AugAssign (.Attribute pa (tx cfg.tab f) px) op pe pos) (tS cfg ca n X.K A (.augF a f o e) W) := by
  have main : ∀ (g : Int → Int → Int), (∀ x v z, augI o x v = some z → ∃ y, v = .int y ∧ z = g x y) → ∀ D σ H, tS cfg ca n X.K A (.augF a f o e) W D σ H → sFldAug X.K (tE cfg X.K ca n a W) (tE cfg X.K ca n e W) (ipI g) (tx cfg.tab f) D σ H := by
    intro g hg D σ H h
    obtain ⟨ρ, as, L, hρ, r, q⟩ := st_e (e := a) (f := fun ρ x L => match fldR cfg L x f, clsR L x with
    | some (.int k), some c => (ev cfg n e ρ L).bind fun v L => match augI o k v with
      | some z => if clsR L x = some c then (match setFR cfg L x f (.int z) with | some L' => .ok (.nx ρ) L' | none => .bad) else .bad
      | none => .bad
    | _, _ => .bad) (fun ρ L => by simp only [evst, evS, ev] <;> rfl) h
    refine ⟨ρ, as, L, hρ, r, q.mono fun v L1 as1 H1 x1 r1 h1 z hz => ?_⟩
    obtain ⟨ρ2, as2, L2, v2, hρ2, r2, hz2, h2⟩ := h1 z hz
    split at h2
    · rename_i k cl ek ec
      obtain ⟨p, C, dx, gs, u, rfl, g1, g2, g3, g4, g5⟩ := fld_any c.c.top.T c.c.top.C r2 hz2 ek
      refine ⟨p, C, dx, gs, u, rfl, g1, g2, g3, g4, ρ2, as2, L2, hρ2, r2, (h2.bind.weak wS_here).mono fun w L3 as3 H3 x3 r3 h3 y hy => ?_⟩
      split at h3
      · rename_i zi ez
        obtain ⟨b, rfl, rfl⟩ := hg _ _ _ ez
        refine ⟨k, b, g5, hy, ?_⟩
        split at h3
        · rename_i ec3
          split at h3
          · rename_i L4 es
            obtain ⟨p', C', dx', gs', e1, q1, q2, q3, q4, q5, q6⟩ := setF_any (d := .int (g k b)) (v := .int (g k b)) c.c.top.T c.c.top.C r3 (hz2.ext r2 x3) rfl es
            cases e1
            have c1 := cls_of r2 hz2 ec g1
            have c2 := cls_of r3 (hz2.ext r2 x3) ec3 q1
            have cls : C' = C := by rw [c1, c2]
            subst cls
            exact ⟨dx', gs', q1, q4, h3 _ _ q5 q6 σ ((hρ2.ext r2 x3).ext r3 q5) .refl⟩
          · exact h3.elim
        · exact h3.elim
      · exact h3.elim
    · exact h2.elim
  cases o with
  | add =>
    have e : op = .Add := by cases op <;> first | rfl | (simp [isOp] at ho)
    subst e
    exact (ps_fldaug ha.1 he.1 in_add).imp (main _ fun x v z h => augI_ok h)
  | sub =>
    have e : op = .Sub := by cases op <;> first | rfl | (simp [isOp] at ho)
    subst e
    exact (ps_fldaug ha.1 he.1 in_sub).imp (main _ fun x v z h => augI_ok h)
  | _ => cases ho2

/-! ### if, for, while, blocks -/
theorem t_test {e : E} {D : Ends} {σ : L2.St} {H : Hp} {s : S} {f : Env → Bool → LH → R Fl} (he : ∀ ρ L, evst cfg n s ρ L = (evt cfg n e ρ L).bind fun v L => f ρ v L) (h : tS cfg ca n X.K A s W D σ H) :
    tT cfg X.K ca n e W σ H fun b H1 => ∃ ρ as L, RepE cfg.tab X.K as H1 ρ σ ∧ Rp cfg.tab X.K ca as L H1 ∧ SO cfg.tab X.K ca (f ρ b L) (wS W A σ) as H1 (FlR cfg X.K D A σ) := by
  obtain ⟨ρ, as, L, hρ, r, h⟩ := h
  have h := h.cast (he ρ L)
  exact ⟨ρ, as, L, hρ, r, (h.bind.weak wS_here).mono fun v L1 as1 H1 x1 r1 h1 => ⟨ρ, as1, L1, hρ.ext r x1, r1, h1⟩⟩
theorem p_ite {e : E} {a b : List S} {pe : Expr} {pa pb : List Stmt} (he : SndE cfg ca n X W e pe) (ha : PSs X pa (tB cfg ca n X.K A a W)) (hb : PSs X pb (tB cfg ca n X.K A b W)) : PS X (.If pe pa pb pos) (tS cfg ca n X.K A (.ite e a b) W) :=
  (ps_if he.2 ha hb).imp fun D σ H h => by
    obtain ⟨ρ, as, L, hρ, r, q⟩ := t_test (e := e) (f := fun ρ k L => if k then evbl cfg n a ρ L else evbl cfg n b ρ L) (fun ρ L => by simp only [evst, evS] <;> rfl) h
    refine ⟨ρ, as, L, hρ, r, q.mono fun k L1 as1 H1 x1 r1 h1 => ?_⟩
    obtain ⟨ρ2, as2, L2, hρ2, r2, h2⟩ := h1
    cases k with
    | true => rw [if_pos rfl] at h2 ⊢; exact ⟨ρ2, as2, L2, hρ2, r2, h2⟩
    | false => rw [if_neg Bool.false_ne_true] at h2 ⊢; exact ⟨ρ2, as2, L2, hρ2, r2, h2⟩
theorem pb_nil : PSs X [] (tB cfg ca n X.K A [] W) := pss_nil.imp fun D σ H ⟨ρ, as, L, hρ, r, h⟩ => by
  simp only [evbl, evB] at h
  exact nx_here hρ r h
theorem FlR.on {K : PySem.W.Frag} {D : Ends} {σ σ' : L2.St} {fl : Fl} {L : LH} {as : List Addr} {H : Hp} (a : ApA A σ σ') (h : FlR cfg K D A σ fl L as H) : FlR cfg K D A σ' fl L as H := by
  cases fl with
  | nx ρ => exact fun σ2 h2 b => h σ2 h2 (a.trans b)
  | brk ρ => exact fun σ2 h2 b => h σ2 h2 (a.trans b)
  | cnt ρ => exact fun σ2 h2 b => h σ2 h2 (a.trans b)
  | ret v => exact h
theorem pb_cons {s : S} {b : List S} {st : Stmt} {sts : List Stmt} (h1 : PS X st (tS cfg ca n X.K A s W)) (h2 : PSs X sts (tB cfg ca n X.K A b W)) : PSs X (st :: sts) (tB cfg ca n X.K A (s :: b) W) :=
  (pss_cons h1 h2).imp fun D σ H ⟨ρ, as, L, hρ, r, h⟩ => by
    simp only [evbl, evB] at h
    refine ⟨ρ, as, L, hρ, r, h.bind.mono fun fl L1 as1 H1 x1 r1 h1 => ?_⟩
    cases fl with
    | nx ρ' =>
      intro σ' hσ' a
      exact ⟨ρ', as1, L1, hσ', r1, (h1.weak (wS_on a)).mono fun _ _ _ _ _ _ q => q.on a⟩
    | brk ρ' => exact SO.here (W := wS W A σ) r1 h1
    | cnt ρ' => exact SO.here (W := wS W A σ) r1 h1
    | ret v => exact SO.here (W := wS W A σ) r1 h1
variable (cfg n) in
def stepF (tg : Tg) (b : List S) : Ev.D → Env → LH → R (Step Env Fl) := fun d ρ L => (asg cfg tg d ρ L).bind fun ρ' L => (evbl cfg n b ρ' L).bind fun f L => match f with
  | .nx ρ' => .ok (.more ρ') L
  | .cnt ρ' => .ok (.more ρ') L
  | .brk ρ' => .ok (.done (.nx ρ')) L
  | .ret v => .ok (.done (.ret v)) L
def finF : Step Env Fl → LH → R Fl := fun s L => match s with
  | .more ρ' => .ok (.nx ρ') L
  | .done f => .ok f L
theorem ev_for {tg : Tg} {src : Src} {es : List E} {b : List S} (ρ : Env) (L : LH) : evst cfg n (.for tg src es b) ρ L = (evs cfg n es ρ L).bind fun vs L => (ivR src L vs).bind fun iv L => (loopV (stepF cfg n tg b) iv ρ L).bind finF := by
  simp only [evst, evS]
  congr 1
  funext vs L
  unfold ivR
  cases srcR src L vs with
  | none => rfl
  | some iv => rfl
theorem p_for (c : Sok cfg nm ca fa n X W) {tg : Tg} {src : Src} {es : List E} {b : List S} {t it : Expr} {xs : List Expr} {body : List Stmt} (hA : (slots tg).all A = true) (ht : tame it = true) (hg : chkT cfg.tab X.N X.env.scope (fun _ => true) tg t = true) (hx : srcArgs X.env.scope src t it = some xs) (r : SndEs cfg ca n X W es xs)
    (hb : PSs X body (tB cfg ca n X.K A b W)) : PS X (.For t it body [] pos) (tS cfg ca n X.K A (.for tg src es b) W) := by
  refine (ps_for c.c.ps c.c.calm (s_src c.c hx r.stars r.len r.pa fun e x h1 h2 => (r.one e x h1 h2).1) (sndT c.c (fun x _ => c.fn x) tg _ hg) hb (tame_folded ht)).imp fun D σ H ⟨ρ, as, L, hρ, rp, h⟩ => ?_
  have h := h.cast (ev_for ρ L)
  have h : SO cfg.tab X.K ca (((evs cfg n es ρ L).bind fun vs L => ivR src L vs).bind fun iv L => (loopV (stepF cfg n tg b) iv ρ L).bind finF) (wS W A σ) as H (FlR cfg X.K D A σ) := by rw [Ev.R.bind_assoc]; exact h
  refine ⟨ρ, as, L, hρ, rp, (h.bind.weak wS_here).mono fun iv L1 as1 H1 x1 r1 h1 J hJ => ?_⟩
  obtain ⟨m0, e0⟩ := left_start (stepF cfg n tg b) iv ρ L1
  rcases e0 with e0 | e0
  · rw [e0] at h1
    let Wi : Nat → Nat → L2.St → Hp → Prop := fun i m σ2 H2 => ∃ ρ2 as2 L2, RepE cfg.tab X.K as2 H2 ρ2 σ2 ∧ Rp cfg.tab X.K ca as2 L2 H2 ∧ Agr as1 H1 as2 H2 ∧ ApA A σ σ2 ∧ SO cfg.tab X.K ca ((left (stepF cfg n tg b) iv i m ρ2 L2).bind finF) (wS W A σ) as2 H2 (FlR cfg X.K D A σ)
    refine ⟨Wi, ⟨m0, ρ, as1, L1, hρ.ext rp x1, r1, .refl, .refl, h1⟩, ?_⟩
    rintro i m σ2 H2 ⟨ρ2, as2, L2, hρ2, r2, ag, ap, h2⟩
    rcases left_turn (stepF cfg n tg b) iv i m ρ2 L2 with z | ⟨m', o, rfl, ea, le, e1, e2⟩
    · rw [z] at h2; exact h2.elim
    · obtain ⟨k1, k2⟩ := hJ i as2 L2 H2 o ag r2 ea le
      cases o with
      | none =>
        rw [e1 rfl] at h2
        exact .inl ⟨k1 rfl, h2.here r2 σ2 hρ2 ap⟩
      | some d =>
        obtain ⟨go, yl⟩ := k2 d rfl
        refine .inr ⟨go, Wi (i + 1) m', fun σ' H' w => ⟨m', Nat.lt_succ_self _, w⟩, fun x H3 y => ?_⟩
        obtain ⟨z1, z2, z3⟩ := yl x H3 y
        rw [e2 d rfl, Ev.R.bind_assoc] at h2
        have h2 := SO.ext z1 h2
        unfold stepF at h2
        rw [Ev.R.bind_assoc] at h2
        refine ⟨_, d, ρ2, as2, L2, z3, hρ2.ext r2 z1, z2, h2.bind.mono fun ρ3 L3 as3 H4 x3 r3 h3 σ3 hσ3 a3 => ?_⟩
        have a3 := ap.trans (a3.ap hA)
        rw [Ev.R.bind_assoc] at h3
        refine ⟨ρ3, as3, L3, hσ3, r3, (h3.bind.weak (wS_on a3)).mono fun fl L4 as4 H5 x4 r4 h4 => ?_⟩
        have ag4 := ag.trans ((z1.agr r2).trans ((x3.agr z2).trans (x4.agr r3)))
        cases fl with
        | nx ρ' => exact fun σ4 hσ4 a4 => ⟨ρ', as4, L4, hσ4, r4, ag4, a3.trans a4, h4⟩
        | cnt ρ' => exact fun σ4 hσ4 a4 => ⟨ρ', as4, L4, hσ4, r4, ag4, a3.trans a4, h4⟩
        | brk ρ' => exact fun σ4 hσ4 a4 => SO.here (W := wS W A σ) r4 h4 σ4 hσ4 (a3.trans a4)
        | ret v => exact SO.here (W := wS W A σ) r4 h4
  · rw [e0] at h1; exact h1.elim
theorem p_whl (c : Sok cfg nm ca fa n X W) {e : E} {b : List S} {pe : Expr} {body : List Stmt} (he : SndE cfg ca n X W e pe) (hb : PSs X body (tB cfg ca n X.K A b W)) : PS X (.While pe body [] pos) (tS cfg ca n X.K A (.whl e b) W) := by
  refine (ps_while c.c.ps he.2 hb).imp fun D σ H ⟨ρ, as, L, hρ, rp, h⟩ => ?_
  simp only [evst, evS] at h
  let Wi : Nat → L2.St → Hp → Prop := fun m σ2 H2 => ∃ ρ2 as2 L2, RepE cfg.tab X.K as2 H2 ρ2 σ2 ∧ Rp cfg.tab X.K ca as2 L2 H2 ∧ ApA A σ σ2 ∧ SO cfg.tab X.K ca (loopW (evt cfg n e) (evbl cfg n b) m ρ2 L2) (wS W A σ) as2 H2 (FlR cfg X.K D A σ)
  refine ⟨Wi, ⟨turns, ρ, as, L, hρ, rp, .refl, h⟩, ?_⟩
  rintro m σ2 H2 ⟨ρ2, as2, L2, hρ2, r2, ap, h2⟩
  cases m with
  | zero => exact h2.elim
  | succ m =>
    simp only [loopW] at h2
    refine ⟨ρ2, as2, L2, hρ2, r2, (h2.bind.weak fun c d H h => wS_here c d H (wS_on ap c d H h)).mono fun k L3 as3 H3 x3 r3 h3 => ?_⟩
    cases k with
    | false =>
      rw [if_neg Bool.false_ne_true] at h3 ⊢
      exact h3.here r3 σ2 (hρ2.ext r2 x3) ap
    | true =>
      rw [if_pos rfl] at h3 ⊢
      refine ⟨Wi m, fun σ' H' w => ⟨m, Nat.lt_succ_self _, w⟩, ρ2, as3, L3, hρ2.ext r2 x3, r3, (h3.bind.weak (wS_on ap)).mono fun fl L4 as4 H4 x4 r4 h4 => ?_⟩
      cases fl with
      | nx ρ' => exact fun σ4 hσ4 a4 => ⟨ρ', as4, L4, hσ4, r4, ap.trans a4, h4⟩
      | cnt ρ' => exact fun σ4 hσ4 a4 => ⟨ρ', as4, L4, hσ4, r4, ap.trans a4, h4⟩
      | brk ρ' => exact fun σ4 hσ4 a4 => SO.here (W := wS W A σ) r4 h4 σ4 hσ4 (ap.trans a4)
      | ret v => exact SO.here (W := wS W A σ) r4 h4
end
end Ev

end
section
set_option linter.all false
set_option maxRecDepth 100000
/-! Ev: all statements. -/
namespace Ev
open PySem PySem.Spec L2
section
variable {cfg : Cfg} {nm : Nm} {ca fa : Nat → Addr} {n : Nat} {A : Nat → Bool}
/-- name = e -/
theorem p_setAll {X : Cx} {W : WX} (c : Sok cfg nm ca fa n X W) {i : Nat} {e : E} {x : Str} {px pos : Pos} {pe : Expr} (hi : X.N[i]? = some x) (hl : loc X.env.scope x = true) (hA : A i = true) (hv : setVal pe = true) (h : chkE nm cfg.tab X.N X.env.scope e pe = true) :
    PS X (.Assign [.Name x px] pe pos) (tS cfg ca n X.K A (.set i e) W) := by
  cases hw : swW X.env.scope x px pe with
  | false => exact p_set c hi hl hA hv hw (sndE e X W pe c.c h)
  | true =>
    have hx : own X.env.scope x = true := by
      unfold own
      unfold swW at hw
      split at hw
      · simp only [Bool.and_eq_true, beq_iff_eq] at hw
        rw [hw.1.1]
      · cases hw
    cases e with
    | lc tg ow src es cond e =>
      simp only [chkE] at h
      split at h
      · simp only [Bool.and_eq_true, decide_eq_true_eq] at h
        obtain ⟨⟨⟨⟨⟨⟨⟨h1, h2⟩, h3⟩, h4⟩, h5⟩, h6⟩, h7⟩, h8⟩ := h
        split at h5
        · rename_i xs ex
          exact p_setLc c hi hx hA hw h1 (fun i m => by simpa using List.all_eq_true.mp h2 i m) h3 h4 ex (sndEs es X W xs c.c h5) (fun s H C cl fp => pts_of h6 (sndEs cond _ W0 _ (c.c.blk s H _ C cl fp) h7)) (fun s H C cl fp => sndE e _ W0 _ (c.c.blk s H _ C cl fp) h8)
        · cases h5
      · cases h
    | lc2 tg ow src es tg1 ow1 src1 es1 e =>
      simp only [chkE] at h
      split at h
      · simp only [Bool.and_eq_true] at h
        obtain ⟨⟨⟨⟨⟨⟨⟨⟨⟨⟨h1, h2⟩, h3⟩, h4⟩, h5⟩, h6⟩, h7⟩, h8⟩, h9⟩, h10⟩, h11⟩ := h
        split at h9
        · rename_i xs ex
          split at h10
          · rename_i xs1 ex1
            exact p_setLc2 c hi hx hA hw h1 h2 h3 (fun i m => by simpa using List.all_eq_true.mp h4 i m) (fun i m => by simpa using List.all_eq_true.mp h5 i m) (fun i m => by simpa using List.all_eq_true.mp h6 i m) h7 h8 ex (sndEs es X W xs c.c h9) ex1
              (fun s H C cl fp => sndEs es1 _ W0 _ (c.c.blk s H _ C cl fp) h10) (fun s H C cl fp => sndE e _ W0 _ (c.c.blk s H _ C cl fp) h11)
          · cases h10
        · cases h9
      · cases h
    | _ =>
      cases pe <;> first | (simp [swW] at hw; done) | (exfalso; revert h; simp only [chkE]; first | (intro h; cases h; done) | skip)
mutual
theorem sndS : ∀ (s : S) (X : Cx) (W : WX) (st : Stmt), Sok cfg nm ca fa n X W → chkS nm cfg.tab X.N A X.env.scope s st = true → PS X st (tS cfg ca n X.K A s W)
  | .pass, X, W, st, c, h => by
    simp only [chkS] at h
    split at h
    · exact p_pass
    · exact p_doc
    · cases h
  | .expr e, X, W, st, c, h => by
    simp only [chkS] at h
    split at h
    · simp only [Bool.and_eq_true] at h
      exact p_expr h.1 (sndE e X W _ c.c h.2)
    · cases h
  | .ret e, X, W, st, c, h => by
    simp only [chkS] at h
    split at h
    · exact p_ret (sndE e X W _ c.c h)
    · cases h
  | .retn, X, W, st, c, h => by
    simp only [chkS] at h
    split at h
    · exact p_retn
    · cases h
  | .set i e, X, W, st, c, h => by
    simp only [chkS] at h
    split at h
    · simp only [Bool.and_eq_true, decide_eq_true_eq] at h
      obtain ⟨⟨⟨⟨h1, h2⟩, h3⟩, h4⟩, h5⟩ := h
      exact p_setAll c h1 h2 h3 h4 h5
    · cases h
  | .setT tg e, X, W, st, c, h => by
    simp only [chkS] at h
    split at h
    · simp only [Bool.and_eq_true, decide_eq_true_eq] at h
      obtain ⟨⟨⟨⟨h1, h2⟩, h3⟩, h4⟩, h5⟩ := h
      exact p_setT c h1 h2 h3 h4 (sndE e X W _ c.c h5)
    · cases h
  | .par i j a b, X, W, st, c, h => by
    simp only [chkS] at h
    split at h
    · simp only [Bool.and_eq_true, decide_eq_true_eq, Bool.not_eq_true', beq_eq_false_iff_ne] at h
      obtain ⟨⟨⟨⟨⟨⟨⟨⟨⟨⟨⟨h1, h2⟩, h3⟩, h4⟩, h5⟩, h6⟩, h7⟩, h8⟩, h9⟩, h10⟩, h11⟩, h12⟩ := h
      exact p_par c h1 h2 h3 h4 h5 h6 h7 h8 h9 h10 (sndE a X W _ c.c h11) (sndE b X W _ c.c h12)
    · cases h
  | .setF o f e, X, W, st, c, h => by
    simp only [chkS] at h
    split at h
    · simp only [Bool.and_eq_true, decide_eq_true_eq] at h
      obtain ⟨⟨⟨h1, rfl⟩, h3⟩, h4⟩ := h
      exact p_setF c (sndE o X W _ c.c h3) (sndE e X W _ c.c h4)
    · cases h
  | .setI o i e, X, W, st, c, h => by
    simp only [chkS] at h
    split at h
    · simp only [Bool.and_eq_true] at h
      obtain ⟨⟨⟨⟨h1, h2⟩, h3⟩, h4⟩, h5⟩ := h
      exact p_setI c h1 h2 (sndE o X W _ c.c h3) (sndE i X W _ c.c h4) (sndE e X W _ c.c h5)
    · cases h
  | .aug i o e, X, W, st, c, h => by
    simp only [chkS] at h
    split at h
    · simp only [Bool.and_eq_true, decide_eq_true_eq] at h
      obtain ⟨⟨⟨⟨⟨h1, h2⟩, h3⟩, h4⟩, h5⟩, h6⟩ := h
      exact p_aug c h1 h2 h3 h4 h5 (sndE e X W _ c.c h6)
    · cases h
  | .augF a f o e, X, W, st, c, h => by
    simp only [chkS] at h
    split at h
    · simp only [Bool.and_eq_true, decide_eq_true_eq] at h
      obtain ⟨⟨⟨⟨⟨h1, rfl⟩, h3⟩, h4⟩, h5⟩, h6⟩ := h
      exact p_augF c h3 h4 (sndE a X W _ c.c h5) (sndE e X W _ c.c h6)
    · cases h
  | .ite e a b, X, W, st, c, h => by
    simp only [chkS] at h
    split at h
    · simp only [Bool.and_eq_true] at h
      exact p_ite (sndE e X W _ c.c h.1.1) (sndB a X W _ c h.1.2) (sndB b X W _ c h.2)
    · cases h
  | .for tg src es b, X, W, st, c, h => by
    simp only [chkS] at h
    split at h
    · simp only [Bool.and_eq_true] at h
      obtain ⟨⟨⟨⟨h1, h2⟩, h3⟩, h4⟩, h5⟩ := h
      split at h4
      · rename_i xs ex
        exact p_for c h1 h2 h3 ex (sndEs es X W xs c.c h4) (sndB b X W _ c h5)
      · cases h4
    · cases h
  | .whl e b, X, W, st, c, h => by
    simp only [chkS] at h
    split at h
    · simp only [Bool.and_eq_true] at h
      exact p_whl c (sndE e X W _ c.c h.1) (sndB b X W _ c h.2)
    · cases h
  | .brk, X, W, st, c, h => by
    simp only [chkS] at h
    split at h
    · exact p_brk
    · cases h
  | .cnt, X, W, st, c, h => by
    simp only [chkS] at h
    split at h
    · exact p_cnt
    · cases h
  | .raise k, X, W, st, c, h => by simp [chkS] at h
  | .never, X, W, st, c, h => ps_never.imp fun D σ H ⟨ρ, as, L, hρ, r, q⟩ => by
    simp only [evst, evS] at q
    exact q.elim
theorem sndB : ∀ (b : List S) (X : Cx) (W : WX) (sts : List Stmt), Sok cfg nm ca fa n X W → chkB nm cfg.tab X.N A X.env.scope b sts = true → PSs X sts (tB cfg ca n X.K A b W)
  | [], X, W, sts, c, h => by
    simp only [chkB] at h
    rw [List.isEmpty_iff.mp h]
    exact pb_nil
  | s :: b, X, W, [], c, h => by simp [chkB] at h
  | s :: b, X, W, st :: sts, c, h => by
    simp only [chkB, Bool.and_eq_true] at h
    exact pb_cons (sndS s X W st c h.1) (sndB b X W sts c h.2)
end
end
end Ev

end
section
set_option linter.all false
set_option maxRecDepth 100000
/-! Ev: defs. -/
namespace Ev
open PySem PySem.Spec L2

section
variable (cfg : Cfg) (nm : Nm) (K : PySem.W.Frag)
/-- a def of the text is the def of the evaluator -/
structure FnFact (a : Addr) (d : Def) : Prop where
  ex : ∃ (name qual : Str) (params : Arguments) (body : List Stmt) (scope : Scope) (dV kV doc pm cdv ct oc : Value) (an od : Option Addr) (osl : Array (Option Value)) (N ps : List Str),
    K.lookup a = some ⟨oc, od, .func (PySem.W.fnOf name qual params body scope dV kV doc pm an cdv ct), osl⟩ ∧ PySem.W.codeIn K cdv qual = true ∧ FnScope N ps scope ∧
    (∀ us : List Value, us.length = ps.length → bindArgs (PySem.W.fnOf name qual params body scope dV kV doc pm an cdv ct) ⟨us, []⟩ = pure (ps.zip us)) ∧
    ps.length = d.np ∧ N.length = d.nl ∧ chkB nm cfg.tab N (fun _ => true) scope d.body body = true
end
section
variable {P : Program} {w : World} {K : PySem.W.Frag} {mg : Str → Option Value} {base : Heap} {cfg : Cfg} {nm : Nm} {ca fa : Nat → Addr} {n : Nat}
theorem Rm.deeper {A : Around} (r : Rm (n + 1) A) (env : PySem.Env) : Rm n (A.deeper env) :=
  ⟨r.hd, r.gd, by have := r.dp; show A.depth + 1 + n + 8 < _; omega, by have := r.un; show A.units + 3 + 8 * n + 300 < _; omega⟩
theorem rep_start {tab : List Str} {as : List Addr} {H : Hp} {ds : List D} {vs : List V} {N : List Str} {m : Nat} (h : RepDs tab K as H ds vs) (hm : N.length - vs.length = m) : RepE tab K as H (ds.map some ++ List.replicate m none) (L2.start N vs) := by
  have l := h.length
  unfold L2.start
  rw [hm]
  refine ⟨by simp [l], fun i d e => ?_⟩
  by_cases c : i < ds.length
  · rw [List.getElem?_append_left (by simpa using c), List.getElem?_map] at e
    obtain ⟨d', e', e2⟩ := Option.map_eq_some_iff.mp e
    cases e2
    obtain ⟨v, hv, q⟩ := h.get e'
    refine ⟨v, ?_, q⟩
    rw [List.getElem?_append_left (by simp; omega), List.getElem?_map, hv]
    rfl
  · rw [List.getElem?_append_right (by simpa using c), List.getElem?_replicate] at e
    split at e <;> cases e
theorem fn_level (top : TopOk cfg nm ca fa K mg) (ff : ∀ f d, cfg.defs f = some d → FnFact cfg nm K (fa f) d) (fs : ∀ f, FnSnd P w K mg base cfg ca fa n f) (fi : ∀ m, n = m + 1 → ∀ f, FnSnd P w K mg base cfg ca fa m f) (f : Nat) : FnSnd P w K mg base cfg ca fa (n + 1) f := by
  intro A outer s H us vs Q E hr e0 r hq
  obtain ⟨as, L, ds, rp, hd, h⟩ := hq
  have h : SO cfg.tab K ca (runDef cfg (calls cfg n).1 (calls cfg n).2 f ds L) E as H (K1 cfg.tab K Q) := h
  unfold runDef at h
  cases ed : cfg.defs f with
  | none => rw [ed] at h; exact h.elim
  | some d =>
    rw [ed] at h
    by_cases hl : ds.length = d.np
    · simp only [if_pos hl] at h
      obtain ⟨name, qual, params, body, scope, dV, kV, doc, pm, cdv, ct, oc, an, od, osl, N, ps, lk, hcd, S, hb, h1, h2, hc⟩ := (ff f d ed).ex
      have lv := hd.length
      have lu := r.length
      have kept : ∀ b o, base.get? b = some o → s.heap.get? b = some o := fun b o e => (e0.bs b o e).1
      have KX : K.In s.heap := e0.mod.kin.keeps kept
      have kinds : ∀ y ∈ ps.zip us, scope.names.lookup y.1 = some .local ∨ (scope.names.lookup y.1 = some .cell ∧ ((cellsFrom (s.heap.objs.size + 1) scope.names []).lookup y.1).isSome = true) := by
        rintro ⟨y, v⟩ hy
        exact (S.par y (List.of_mem_zip hy).1).imp id fun q => ⟨q, PySem.W.cellsFrom_some _ _ _ (.inl q)⟩
      refine codeAny_call_function (by have := hr.dp; omega) (KX _ _ lk) rfl S.co S.gen rfl (PySem.W.codeRec_of KX hcd) (BindsTo.of_eq (hb us (by omega)) _ _ _ _ ?_)
      refine wpAny_newFunctionEnv_cells S.kind kinds fun env he s1 x => ?_
      subst he
      refine ⟨(e0.mod.nolimit.keeps kept).keeps x.toInCall.keep, codeAny_func ?_⟩
      have I : L2.Inv (cxOf (L2.CX P w) P w K mg base N qual scope (fa f) cdv A outer s H E) [] (L2.start N vs) H s1 := inv_start S hr.hd e0 (by omega) r x
      have sok : Sok cfg nm ca fa n (cxOf (L2.CX P w) P w K mg base N qual scope (fa f) cdv A outer s H E) (fun c d _ H => E c d H) :=
        ⟨⟨top, S.nd, rfl, hr.deeper _, takes_of rfl rfl rfl rfl, passes_of rfl, fs, fi⟩, fun _ => rfl, S.kind⟩
      have ht := sndB d.body _ _ body sok hc
      have hq : tB cfg ca n K (fun _ => true) d.body (fun c d _ H => E c d H) { nx := fun _ H' => Q .non H', rt := Q } (L2.start N vs) H := by
        refine ⟨ds.map some ++ List.replicate (d.nl - d.np) none, as, L, rep_start hd (by omega), rp, (h.bind.weak fun c d H h σ' _ => h).mono fun fl L1 as1 H1 x1 r1 h1 => ?_⟩
        cases fl with
        | nx ρ' => exact fun σ' _ _ => SO.here (W := E) r1 h1 .non rfl
        | ret v => exact SO.here (W := E) r1 h1
        | brk ρ' => exact h1.elim
        | cnt ρ' => exact h1.elim
      refine wpAny_mono (ht.run [] s1 (L2.start N vs) H _ I hq) (fun fl s' hs => ?_) fun e s' hs => hs
      have fin : ∀ {σ' : L2.St} {H' : Hp} {v : V} {u : Value}, L2.Inv (cxOf (L2.CX P w) P w K mg base N qual scope (fa f) cdv A outer s H E) [] σ' H' s' → RelV v u → Q v H' → CE outer P w H s Q u s' :=
        fun J rv q => ⟨_, _, J.os, J.bare, J.base, J.hok, rv, q⟩
      cases fl with
      | ret u =>
        obtain ⟨v, σ', H', J, rv, q⟩ := hs
        exact fin J rv q
      | next =>
        obtain ⟨σ', H', J, q⟩ := hs
        exact fin (v := V.non) (u := Value.none) J rfl q
      | brk =>
        obtain ⟨_, _, _, q⟩ := hs
        exact q.elim
      | cont =>
        obtain ⟨_, _, _, q⟩ := hs
        exact q.elim
    · simp only [if_neg hl] at h; exact h.elim
/-- defs keep what the evaluator says, at every level -/
theorem fn_all (top : TopOk cfg nm ca fa K mg) (ff : ∀ f d, cfg.defs f = some d → FnFact cfg nm K (fa f) d) : ∀ n, (∀ f, FnSnd P w K mg base cfg ca fa n f) ∧ ∀ m, n = m + 1 → ∀ f, FnSnd P w K mg base cfg ca fa m f
  | 0 => ⟨fun f A outer s H us vs Q E hr e0 r ⟨as, L, ds, rp, hd, h⟩ => h.elim, fun m e => by cases e⟩
  | n + 1 => ⟨fn_level top ff (fn_all top ff n).1 (fn_all top ff n).2, fun m e => by
    cases e
    exact (fn_all top ff n).1⟩
end
end Ev

end
section
set_option linter.all false
set_option maxRecDepth 100000
/-! Ev: a law's call, from the heap that the top leaves. -/
namespace Ev
open PySem PySem.Spec PyProof.Rows L2

theorem rm_caller : Rm 690 callerA := ⟨rfl, rfl, by decide +kernel, by decide +kernel⟩
section
variable {P : Program} {w : World} {K : PySem.W.Frag} {mg mb : Str → Option Value} {cfg : Cfg} {nm : Nm} {ca fa : Nat → Addr}
/-- the wanted end -/
abbrev LawEnd (s0 : Shared) : Result → Shared → Prop := fun r s' => r = .ok (.ret (.bool true)) ∧ OldK s0.heap s'.heap ∧ s'.os = s0.os ∧ AllBare s'.gens
theorem law_core {a : Addr} {f : Nat} {s0 : Shared} {vs : List Value} {ns : List Int} {H : Hp} (top : TopOk cfg nm ca fa K mg) (ff : ∀ f d, cfg.defs f = some d → FnFact cfg nm K (fa f) d) (KX : K.In s0.heap) (hns : s0.heap.Ns mainGlobals mg) (hb : s0.heap.Ns builtinsNs mb) (hbb : ∀ x : Str, x ≠ "__name__" → mb x = bootBuiltins x)
    (hlim : s0.heap.NoLimit) (hg : s0.gens = #[]) (ha : s0.heap.get? a = some { cls := .type "list", data := .seq vs.toArray }) (only : ∀ b, H b = none ∨ b = a ∧ K.lookup a = none ∧ ∃ o xs, H b = some (.frz o (.lst xs))) (hS : ScrAt K H a ns) (hok : HOk P w H s0.heap)
    (math : ∃ L, run cfg 690 f [.scr ns] [] = .ok (.bl true) L) : codeAny (model P w) callerA (.call (.ref (fa f)) ⟨[.ref a], []⟩) (LawEnd s0) s0 := by
  have keep : ∀ {b : Addr} {o : Obj}, s0.heap.get? b = some o → H b = none → (hidT s0.heap H).get? b = some o := fun e n => hidT_get e n
  have dict : ∀ {b : Addr} {o : Obj} {es : Array DictEntry} {ep : Nat}, s0.heap.get? b = some o → o.data = .dict es ep → H b = none := by
    intro b o es ep e d
    rcases only b with z | ⟨rfl, _⟩
    · exact z
    · rw [ha] at e
      cases e
      cases d
  have nsH : ∀ {b : Addr} {m : Str → Option Value}, s0.heap.Ns b m → (hidT s0.heap H).Ns b m := by
    rintro b m ⟨o, es, ep, e, d, r⟩
    exact ⟨o, es, ep, keep e (dict e d), d, r⟩
  have KH : K.In (hidT s0.heap H) := by
    intro b o e
    rcases only b with z | ⟨rfl, z, _⟩
    · exact keep (KX b o e) z
    · rw [z] at e; cases e
  obtain ⟨mc, l1, l2⟩ := hlim
  have M : Mod K mg (hidT s0.heap H) := ⟨KH, nsH hns, ⟨mb, nsH hb, hbb⟩, mc, nsH l1, l2⟩
  have e0 : Env0 P w K mg (hidT s0.heap H) callerA [] s0 H := ⟨rfl, M, fun b o e => of_hidT e, Nat.le_of_eq (hidT_size _ _), trivial, nofun, hok, .of_eq hg⟩
  obtain ⟨L, math⟩ := math
  have F := (fn_all (P := P) (w := w) (base := hidT s0.heap H) top ff 690).1 f
  have rp : Rp cfg.tab K ca [] [] H := ⟨rfl, List.nodup_nil, fun n o e => by simp at e⟩
  have scr : RepDs cfg.tab K [] H [.scr ns] [.ref a] := .cons (by simp only [RepD]; exact ⟨a, rfl, hS⟩) .nil
  refine codeAny_mono (F callerA [] s0 H [.ref a] [.ref a] (fun v _ => v = .bl true) (fun _ _ _ => False) rm_caller e0 (.cons rfl .nil) ⟨[], [], [.scr ns], rp, scr, ?_⟩) fun r s' h => ?_
  · show SO cfg.tab K ca (run cfg 690 f [.scr ns] []) _ _ _ _
    rw [math]
    exact fun as' H' x r' z hz => hz
  · cases r with
    | error e =>
      obtain ⟨_, _, _, _, _, _, _, _, _, _, _, _, z⟩ := h
      exact z.elim
    | ok fl =>
      cases fl with
      | ret u =>
        obtain ⟨v, H', os, bare, un, hok', rv, q⟩ := h
        subst q
        cases rv
        refine ⟨rfl, OldK.of_keep fun b o e => ?_, os, bare⟩
        rcases only b with z | ⟨_, _, ob, xs, z⟩
        · exact un.keep b o e z (by simp [frs]) (by simp)
        · have q1 := (hok b _ z).1
          have q2 := (hok' b _ (un.frzs b ob _ z)).1
          rw [e] at q1
          cases q1
          exact q2
      | _ => exact False.elim h
theorem law_ev {a : Addr} {f : Nat} {s0 : Shared} {vs : List Value} {ns : List Int} (top : TopOk cfg nm ca fa K mg) (ff : ∀ f d, cfg.defs f = some d → FnFact cfg nm K (fa f) d) (KX : K.In s0.heap) (hns : s0.heap.Ns mainGlobals mg) (hb : s0.heap.Ns builtinsNs mb) (hbb : ∀ x : Str, x ≠ "__name__" → mb x = bootBuiltins x)
    (hlim : s0.heap.NoLimit) (hg : s0.gens = #[]) (ha : s0.heap.get? a = some { cls := .type "list", data := .seq vs.toArray }) (hi : IntsAre vs ns) (hl : ns.length ≤ 63)
    (math : ∃ L, run cfg 690 f [.scr ns] [] = .ok (.bl true) L) : codeAny (model P w) callerA (.call (.ref (fa f)) ⟨[.ref a], []⟩) (LawEnd s0) s0 := by
  have rv := vals_ints hi
  have lv := hi.length
  have line : ns.length ≤ sizeLine := by rw [sizeLine_eq]; omega
  cases hk : K.lookup a with
  | some o =>
    have e := KX a o hk
    rw [ha] at e
    cases e
    exact law_core top ff KX hns hb hbb hlim hg ha (H := fun _ => none) (fun _ => .inl rfl) (.inr ⟨_, vs.toArray, _, hk, rfl, rfl, rfl, by simp; omega, by simpa using rv⟩) (fun b u z => nomatch (show (none : Option HO) = some u from z)) math
  | none =>
    let ob : Obj := { cls := .type "list", data := .seq vs.toArray }
    have at1 : (fun b : Addr => if b = a then some (HO.frz ob (.lst (ns.map V.int))) else none) a = some (.frz ob (.lst (ns.map V.int))) := if_pos rfl
    refine law_core top ff KX hns hb hbb hlim hg ha (H := fun b => if b = a then some (.frz ob (.lst (ns.map V.int))) else none) (fun b => ?_) (.inl ⟨ob, at1⟩) (fun b u z => ?_) math
    · by_cases e : b = a
      · exact .inr ⟨e, hk, ob, _, if_pos e⟩
      · exact .inl (if_neg e)
    · by_cases e : b = a
      · subst e
        rw [at1] at z
        cases z
        exact ⟨ha, by simpa using line, vs, _, rv, ha⟩
      · have z' := (if_neg e).symm.trans z
        cases z'
/-- the goal behind the head -/
theorem walk_ev {l : PySem.W.OpenLaw} {q : Program} {loose : List Str} {XP : (Str → Option Value) → Heap → Prop} {YP : World → Heap → Prop} {d : DefRec} {cfg : Cfg} {nm : Nm} {f : Nat} (hn : l.most = some 63) (hdf : d.params.defaults = [])
    (F : ∀ (w : World) (mg : Str → Option Value) (b : Addr) (h : Heap), YP w h → h.Ns mainGlobals mg → mg d.name = some (.ref b) →
      ∃ (K : PySem.W.Frag) (ca fa : Nat → Addr), K.In h ∧ fa f = b ∧ TopOk cfg nm ca fa K mg ∧ ∀ f d, cfg.defs f = some d → FnFact cfg nm K (fa f) d)
    (math : ∀ ns : List Int, ns.length ≤ 63 → ∃ L, run cfg 690 f [.scr ns] [] = .ok (.bl true) L) : PySem.W.WalkO q loose XP YP l.row.toRowW d [] (fun f vs => PySem.call f vs) := by
  refine Att.attach_call hn hdf fun w s₀ s₁ mg mb b o pm cd doc a vs ns G Y ho hd hcd hmg hobj hints hlen hg => ?_
  obtain ⟨K, ca, fa, KX, e, top, ff⟩ := F w mg b _ Y G.T.g hmg
  subst e
  exact law_ev top ff KX G.T.g G.T.b G.T.builtins G.T.nolimit hg hobj hints hlen (math ns hlen)
end
end Ev

end
section
set_option linter.all false
set_option maxRecDepth 100000
/-! Ev: a law's text as a book; what the head must tell. -/
namespace Ev
open PySem PySem.Spec PyProof.Rows L2

/-- a law's text: names, classes, attributes, methods, defs -/
structure Book where
  tab : List Str
  cls : List (Nat × Str)
  fld : List (Nat × Nat)
  mth : List (Nat × Nat × Nat)
  ini : List (Nat × Nat)
  fns : List (Nat × Str)
  cst : List (Nat × Str × Int)
  fvs : List (Nat × Nat × Nat)
  defs : List (Nat × Def)
def Book.gloD (b : Book) (g : Nat) : D := match b.cst.lookup g with
  | some p => .int p.2
  | none => match b.fvs.lookup g with
    | some p => .fn p.1
    | none => .non
def Book.cfg (b : Book) : Cfg where
  tab := b.tab
  glo := b.gloD
  defs := fun f => b.defs.lookup f
  ini := fun c => b.ini.lookup c
  mth := fun c m => (b.mth.find? fun p => p.1 == c && p.2.1 == m).map (·.2.2)
  fnm := fun c => (b.fvs.find? fun p => p.2.1 == c).map (·.2.2)
  fld := fun c f => b.fld.contains (c, f)
def Book.gnm (b : Book) (g : Nat) : Option Str := match b.cst.lookup g with
  | some p => some p.1
  | none => (b.fvs.lookup g).map fun p => tx b.tab p.1
def Book.nm (b : Book) : Nm where
  fn := fun f => b.fns.lookup f
  cn := fun c => b.cls.lookup c
  gn := b.gnm
def cnm (b : Book) (c : Nat) : Str := match b.cls.lookup c with
  | some x => x
  | none => ⟨#[]⟩
/-- what is asked of the head -/
def Book.facts (b : Book) : List He.Fa := b.cls.map (fun p => He.Fa.cls p.2) ++ b.cls.map (fun p => He.Fa.mkr p.2) ++ b.cls.map (fun p => He.Fa.glo p.2) ++ b.fld.map (fun p => .noat (cnm b p.1) (tx b.tab p.2)) ++ b.mth.map (fun p => .meth (cnm b p.1) (tx b.tab p.2.1)) ++ b.fns.map (fun p => .glo p.2) ++ b.cst.map (fun p => .int p.2.1 p.2.2) ++ bltNames.map .free
/-- the def of a number -/
def pyOf : List (Nat × Def) → List He.DefD → Nat → Option He.DefD
  | (k, _) :: ds, p :: ps, f => if f = k then some p else pyOf ds ps f
  | _, _, _ => none
def atOf (b : Book) (pys : List He.DefD) (f : Nat) : Str × Option Str := match pyOf b.defs pys f with
  | some p => p.at_
  | none => (⟨#[]⟩, none)
def Book.ok (b : Book) (pys : List He.DefD) : Bool :=
  decide b.tab.Nodup && b.tab.all (fun x => PyData.strOk x && decide (x.length ≤ 15)) &&
  b.cls.all (fun c => decide (cnm b c.1 = c.2) && match b.ini.lookup c.1 with
    | some f => decide (atOf b pys f = (c.2, some ("__init__" : Str)))
    | none => false) &&
  b.fns.all (fun p => (pyOf b.defs pys p.1).isSome && decide (atOf b pys p.1 = (p.2, none))) &&
  b.mth.all (fun p => (b.cls.lookup p.1).isSome && decide (p.2.1 < b.tab.length) && decide (atOf b pys p.2.2 = (cnm b p.1, some (tx b.tab p.2.1)))) &&
  b.fld.all (fun p => (b.cls.lookup p.1).isSome && decide (p.2 < b.tab.length)) &&
  b.fvs.all (fun p => decide (p.2.1 < b.tab.length) && b.fns.contains (p.2.2, tx b.tab p.2.1))
section
variable {b : Book} {pys : List He.DefD} {K : PySem.W.Frag} {h : Heap} {mg : Str → Option Value}
theorem facts_mem {f : He.Fa} (c : He.SaysD b.facts pys K) (m : f ∈ b.facts) : f.ok K = true := by
  obtain ⟨i, hi⟩ := List.getElem?_of_mem m
  exact c.fact i hi
theorem lookup_mem {α β : Type} [BEq α] [LawfulBEq α] {l : List (α × β)} {k : α} {v : β} (h : l.lookup k = some v) : (k, v) ∈ l := by
  induction l with
  | nil => cases h
  | cons p r ih =>
    obtain ⟨a, c⟩ := p
    rw [List.lookup_cons] at h
    split at h
    · rename_i e
      cases h
      rw [beq_iff_eq.mp e]
      exact List.mem_cons_self
    · exact List.mem_cons_of_mem _ (ih h)
theorem find_mem {α : Type} {p : α → Bool} {l : List α} {a : α} (h : l.find? p = some a) : a ∈ l ∧ p a = true := ⟨List.mem_of_find?_eq_some h, List.find?_some h⟩
/-- the addresses -/
def caOf (b : Book) (K : PySem.W.Frag) (c : Nat) : Addr := He.ga K (cnm b c)
def faOf (b : Book) (pys : List He.DefD) (K : PySem.W.Frag) (f : Nat) : Addr := He.fAd K (atOf b pys f)
theorem pyOf_mem : ∀ {ds : List (Nat × Def)} {ps : List He.DefD} {f : Nat} {p : He.DefD}, pyOf ds ps f = some p → p ∈ ps
  | [], _, _, _, h => by simp [pyOf] at h
  | _ :: _, [], _, _, h => by simp [pyOf] at h
  | (k, _) :: ds, p' :: ps, f, p, h => by
    unfold pyOf at h
    split at h
    · cases h; exact List.mem_cons_self
    · exact List.mem_cons_of_mem _ (pyOf_mem h)
theorem book_top (ok : b.ok pys = true) (X : K.In h) (G : h.Ns mainGlobals mg) (c : He.SaysD b.facts pys K) : TopOk b.cfg b.nm (caOf b K) (faOf b pys K) K mg := by
  unfold Book.ok at ok
  simp only [Bool.and_eq_true, List.all_eq_true, decide_eq_true_eq] at ok
  obtain ⟨⟨⟨⟨⟨⟨o1, o2⟩, o3⟩, o4⟩, o5⟩, o6⟩, o7⟩ := ok
  have mc : ∀ {x : Nat}, (b.cls.lookup x).isSome = true → Cls K (caOf b K x) := fun {x} hx => by
    obtain ⟨y, hy⟩ := Option.isSome_iff_exists.mp hx
    have m := lookup_mem hy
    have e : cnm b x = y := by unfold cnm; rw [hy]
    unfold caOf
    rw [e]
    exact He.cls_ok (facts_mem c (by
      unfold Book.facts
      simp only [List.mem_append, List.mem_map]
      exact .inl (.inl (.inl (.inl (.inl (.inl (.inl ⟨_, m, rfl⟩))))))))
  have kept : ∀ {f : Nat}, (pyOf b.defs pys f).isSome = true → PySem.W.keepIn K (.ref (faOf b pys K f)) = true := fun {f} hf => by
    obtain ⟨p, hp⟩ := Option.isSome_iff_exists.mp hf
    obtain ⟨i, hi⟩ := List.getElem?_of_mem (pyOf_mem hp)
    obtain ⟨fd, F⟩ := c.def_ i hi
    have e : atOf b pys f = p.at_ := by unfold atOf; rw [hp]
    unfold faOf
    rw [e]
    exact F.kp
  have glob : ∀ {f : Nat} {x : Str}, (f, x) ∈ b.fns → mg x = some (.ref (faOf b pys K f)) ∧ PySem.W.keepIn K (.ref (faOf b pys K f)) = true := fun {f x} m => by
    obtain ⟨h1, h2⟩ := o4 _ m
    have g := He.glo_ok X G (x := x) (facts_mem c (by
      unfold Book.facts
      simp only [List.mem_append, List.mem_map]
      exact .inl (.inl (.inr ⟨_, m, rfl⟩))))
    have e : faOf b pys K f = He.ga K x := by
      unfold faOf
      rw [h2]
      rfl
    exact ⟨by rw [e]; exact g, kept h1⟩
  refine ⟨⟨o1, fun x m => (o2 x m).1, fun x m => (o2 x m).2⟩, ⟨fun cl f hf => ?_⟩, fun f x hf => glob (lookup_mem hf), fun cl x hx => ?_, fun g x hx => ?_, fun cl m f hf => ?_, fun cd f hf => ?_, fun x hx => ?_⟩
  · have m : (cl, f) ∈ b.fld := by simpa [Book.cfg] using hf
    obtain ⟨h1, h2⟩ := o6 _ m
    exact ⟨h2, mc h1, He.noat_ok (facts_mem c (by
      unfold Book.facts
      simp only [List.mem_append, List.mem_map]
      exact .inl (.inl (.inl (.inl (.inr ⟨_, m, rfl⟩))))))⟩
  · have hx : b.cls.lookup cl = some x := hx
    have m := lookup_mem hx
    have ex : cnm b cl = x := by unfold cnm; rw [hx]
    obtain ⟨_, q⟩ := o3 _ m
    cases ei : b.ini.lookup cl with
    | none => rw [ei] at q; cases q
    | some f =>
      rw [ei] at q
      have q : atOf b pys f = (x, some ("__init__" : Str)) := of_decide_eq_true q
      refine ⟨f, ei, ?_, ?_⟩
      · have g := He.glo_ok X G (x := x) (facts_mem c (by
          unfold Book.facts
          simp only [List.mem_append, List.mem_map]
          exact .inl (.inl (.inl (.inl (.inl (.inr ⟨_, m, rfl⟩)))))))
        unfold caOf
        rw [ex]
        exact g
      · have k := He.mkr_ok (x := x) (facts_mem c (by
          unfold Book.facts
          simp only [List.mem_append, List.mem_map]
          exact .inl (.inl (.inl (.inl (.inl (.inl (.inr ⟨_, m, rfl⟩))))))))
        unfold faOf caOf
        rw [q, ex]
        exact k
  · have hx : b.gnm g = some x := hx
    unfold Book.gnm at hx
    cases e1 : b.cst.lookup g with
    | some p =>
      rw [e1] at hx
      cases hx
      obtain ⟨t, ht⟩ := He.int_ok X G (x := p.1) (i := p.2) (facts_mem c (by
        unfold Book.facts
        simp only [List.mem_append, List.mem_map]
        exact .inl (.inr ⟨_, lookup_mem e1, rfl⟩)))
      refine ⟨_, .int p.2, ht, ⟨t, rfl⟩, fun as H => ?_⟩
      show RepD b.tab K as H (b.gloD g) _
      unfold Book.gloD
      rw [e1]
      rfl
    | none =>
      rw [e1] at hx
      obtain ⟨p, e2, rfl⟩ := Option.map_eq_some_iff.mp hx
      obtain ⟨h1, h2⟩ := o7 _ (lookup_mem e2)
      have m : (p.2, tx b.tab p.1) ∈ b.fns := by simpa using h2
      obtain ⟨g1, _⟩ := glob m
      have e : faOf b pys K p.2 = He.ga K (tx b.tab p.1) := by
        unfold faOf
        rw [(o4 _ m).2]
        rfl
      refine ⟨_, .ref (He.ga K (tx b.tab p.1)), g1, by rw [e]; rfl, fun as H => ?_⟩
      show RepD b.tab K as H (b.gloD g) _
      unfold Book.gloD
      rw [e1, e2]
      rfl
  · have hf : (b.mth.find? fun p => p.1 == cl && p.2.1 == m).map (·.2.2) = some f := hf
    obtain ⟨p, e1, rfl⟩ := Option.map_eq_some_iff.mp hf
    obtain ⟨mp, ep⟩ := find_mem e1
    simp only [Bool.and_eq_true, beq_iff_eq] at ep
    obtain ⟨rfl, rfl⟩ := ep
    obtain ⟨⟨h1, h2⟩, h3⟩ := o5 _ mp
    refine ⟨h2, mc h1, ?_⟩
    have k := He.meth_ok (x := cnm b p.1) (m := tx b.tab p.2.1) (facts_mem c (by
      unfold Book.facts
      simp only [List.mem_append, List.mem_map]
      exact .inl (.inl (.inl (.inr ⟨_, mp, rfl⟩)))))
    unfold faOf caOf
    rw [h3]
    exact k
  · have hf : (b.fvs.find? fun p => p.2.1 == cd).map (·.2.2) = some f := hf
    obtain ⟨p, e1, rfl⟩ := Option.map_eq_some_iff.mp hf
    obtain ⟨mp, ep⟩ := find_mem e1
    obtain rfl : p.2.1 = cd := by simpa using ep
    obtain ⟨h1, h2⟩ := o7 _ mp
    have m : (p.2.2, tx b.tab p.2.1) ∈ b.fns := by simpa using h2
    refine ⟨?_, (glob m).2⟩
    unfold faOf
    rw [(o4 _ m).2]
    rfl
  · exact He.free_ok X G (facts_mem c (by
      unfold Book.facts
      simp only [List.mem_append, List.mem_map]
      exact .inr ⟨_, hx, rfl⟩))
/-! ### defs -/
def fnScopeB (N ps : List Str) (sc : Scope) : Bool := decide (sc.kind = .function) && !sc.isCoroutine && !sc.isGenerator && decide N.Nodup && decide (N.take ps.length = ps) && ps.all (fun x => loc sc x) && sc.names.all (fun y => !(y.2 == .free))
theorem fnScope_of {N ps : List Str} {sc : Scope} (h : fnScopeB N ps sc = true) : FnScope N ps sc := by
  unfold fnScopeB at h
  simp only [Bool.and_eq_true, decide_eq_true_eq, Bool.not_eq_true', List.all_eq_true] at h
  obtain ⟨⟨⟨⟨⟨⟨h1, h2⟩, h3⟩, h4⟩, h5⟩, h6⟩, h7⟩ := h
  exact ⟨h1, h2, h3, h4, h5, fun x m => loc_of (h6 x m), fun y m z => by
    have := h7 y m
    rw [z] at this
    cases this⟩
/-- a def's text is what is run -/
def chkD (b : Book) (p : He.DefD) (n : List Str × List Str) (d : Def) : Bool := p.dfl.isEmpty && p.kwd.isEmpty && decide (n.1.length = d.np) && decide (n.2.length = d.nl) && fnScopeB n.2 n.1 p.scope && chkB b.nm b.tab n.2 (fun _ => true) p.scope d.body p.body
structure BindsD (p : He.DefD) (ps : List Str) : Prop where
  b : ∀ (kV doc pm : Value) (an : Option Addr) (cdv ct : Value) (us : List Value), us.length = ps.length → bindArgs (PySem.W.fnOf p.name p.qual p.params p.body p.scope .none kV doc pm an cdv ct) ⟨us, []⟩ = pure (ps.zip us)
def AllD (b : Book) : List He.DefD → List (List Str × List Str) → List (Nat × Def) → Prop
  | [], [], [] => True
  | p :: ps, n :: ns, d :: ds => chkD b p n d.2 = true ∧ BindsD p n.1 ∧ AllD b ps ns ds
  | _, _, _ => False
theorem allD_at : ∀ {pys : List He.DefD} {nms : List (List Str × List Str)} {ds : List (Nat × Def)} {f : Nat} {d : Def}, AllD b pys nms ds → ds.lookup f = some d → ∃ p n, pyOf ds pys f = some p ∧ p ∈ pys ∧ chkD b p n d = true ∧ BindsD p n.1
  | [], [], [], _, _, _, e => by cases e
  | [], _ :: _, _, _, _, h, _ => h.elim
  | [], [], _ :: _, _, _, h, _ => h.elim
  | _ :: _, [], _, _, _, h, _ => h.elim
  | _ :: _, _ :: _, [], _, _, h, _ => h.elim
  | p :: ps, n :: ns, (k, d0) :: ds, f, d, h, e => by
    rw [List.lookup_cons] at e
    unfold pyOf
    by_cases ek : f = k
    · subst ek
      simp only [BEq.rfl] at e
      cases e
      exact ⟨p, n, if_pos rfl, List.mem_cons_self, h.1, h.2.1⟩
    · rw [beq_eq_false_iff_ne.mpr ek] at e
      obtain ⟨p', n', h1, h2, h3, h4⟩ := allD_at h.2.2 e
      exact ⟨p', n', by rw [if_neg ek]; exact h1, List.mem_cons_of_mem _ h2, h3, h4⟩
theorem book_fn {nms : List (List Str × List Str)} (all : AllD b pys nms b.defs) (c : He.SaysD b.facts pys K) : ∀ f d, b.cfg.defs f = some d → FnFact b.cfg b.nm K (faOf b pys K f) d := by
  intro f d e
  obtain ⟨p, n, e1, e2, h1, h2⟩ := allD_at all e
  obtain ⟨i, hi⟩ := List.getElem?_of_mem e2
  obtain ⟨fd, F⟩ := c.def_ i hi
  unfold chkD at h1
  simp only [Bool.and_eq_true, decide_eq_true_eq, List.isEmpty_iff] at h1
  obtain ⟨⟨⟨⟨⟨k1, k2⟩, k3⟩, k4⟩, k5⟩, k6⟩ := h1
  obtain ⟨oc, od, dV, kV, doc, pm, an, cdv, ct, osl, rfl, lk, hcd, hD, _⟩ := F.ex
  have dv : dV = .none := by
    rcases hD with ⟨_, q⟩ | ⟨q, _⟩
    · exact q
    · exact absurd (by unfold He.DefD.dvs; rw [k1]; rfl) q
  subst dv
  have ea : faOf b pys K f = He.fAd K p.at_ := by
    unfold faOf atOf
    rw [e1]
  rw [ea]
  exact ⟨_, _, _, _, _, _, _, _, _, _, _, _, _, _, _, n.2, n.1, lk, hcd, fnScope_of k5, h2.b kV doc pm an cdv ct, k3, k4, k6⟩
end
/-! ### where a def stands in the text -/
def stAt (p : Program) (i : Nat) : Stmt := p.main.body.getD i (.Pass ⟨0, 0, 0, 0⟩)
def subAt (s : Stmt) (j : Nat) : Stmt := match s with
  | .ClassDef _ _ _ body _ _ _ _ _ _ _ => body.getD j (.Pass ⟨0, 0, 0, 0⟩)
  | _ => .Pass ⟨0, 0, 0, 0⟩
def mkF (p : Program) (i : Nat) (x : Str) : He.DefD := ⟨(x, none), x, x, defArgs (stAt p i), defBody (stAt p i), defScope (stAt p i), [], []⟩
def mkM (p : Program) (i j : Nat) (c m q : Str) : He.DefD := ⟨(c, some m), m, q, defArgs (subAt (stAt p i) j), defBody (subAt (stAt p i) j), defScope (subAt (stAt p i) j), [], []⟩
end Ev

end
section
set_option linter.all false
set_option maxRecDepth 100000
/-! Lib: the laws' texts in the evaluator's syntax (printed by gen.py). -/
namespace Lib
open PySem Ev
def voc : List Str := (["p", "c", "declarations", "definitions", "data", "bind", "make", "cut", "are_plain", "making", "is_plain", "shapes", "call", "match", "codata", "world", "many", "deepest", "stop", "terms", "var", "params", "statement", "met", "has_form"] : List Str) ++ (["term", "first", "length", "behind", "variable", "append", "all_terms", "places", "blocks", "slot", "block", "at", "frame", "store", "steps", "sides", "inside", "body", "place", "tree", "kind", "spots", "types", "left", "several"] : List Str) ++ (["", "program", "plain", "much", "index", "count", "pc", "databind", "let", "told", "refused", "bound", "handed", "matched_up", "give", "kept", "made", "result", "move", "put", "join", "turn", "taken", "collect", "stepped"] : List Str) ++ (["go", "end", "date", "q", "_law_first", "0", "eta", "drop", "binds", "Bind", "spend", "of_values", "check_size", "of_value", "get", "turned", "found", "step", "halt", "1", "pop"] : List Str)
def other : Def := ⟨1, 1, [.ite (.cmp .eq (.var 0) (.str 0)) [.ret (.str 1)] [], .ret (.str 0)]⟩
def World___init__ : Def := ⟨2, 2, [.setT (.tup [.fld 0 2, .fld 0 3]) (.var 1)]⟩
def World_making : Def := ⟨2, 2, [.ite (.cmp .eq (.idx (.idx (.fld (.var 0) 2) (.var 1)) (.int 0)) (.str 4)) [.ret (.str 0)] [], .ret (.str 1)]⟩
def World_shapes : Def := ⟨2, 2, [.ret (.idx (.idx (.fld (.var 0) 2) (.var 1)) (.int 1))]⟩
def World_params : Def := ⟨2, 2, [.ret (.idx (.idx (.fld (.var 0) 3) (.var 1)) (.int 0))]⟩
def World_body : Def := ⟨2, 2, [.ret (.idx (.idx (.fld (.var 0) 3) (.var 1)) (.int 1))]⟩
def World_is_plain : Def := ⟨3, 5, [.setT (.tup [.name 3, .name 4]) (.var 1), .ite (.cmp .eq (.idx (.var 2) (.int 0)) (.str 5)) [.ret (.cmp .ne (.var 3) (.mth (.var 0) 9 [.var 4]))] [], .ite (.cmp .eq (.idx (.var 2) (.int 0)) (.str 6)) [.ret (.mth (.var 0) 8 [.idx (.mth (.var 0) 11 [.var 4]) (.idx (.var 2) (.int 1)), .idx (.var 2) (.int 2)])] [], .ret (.bl true)]⟩
def World_are_plain : Def := ⟨3, 5, [.for (.tup [.name 3, .name 4]) .zip [.var 1, .var 2] [.ite (.not (.mth (.var 0) 10 [.var 3, .var 4])) [.ret (.bl false)] []], .ret (.bl true)]⟩
def World_sides : Def := ⟨2, 6, [.setT (.tup [.name 2, .name 3, .name 4, .name 5]) (.var 1), .ite (.cmp .eq (.mth (.var 0) 9 [.var 3]) (.str 0)) [.ret (.tup [.var 4, .var 5])] [], .ret (.tup [.var 5, .var 4])]⟩
def World_cut : Def := ⟨4, 4, [.ite (.cmp .eq (.mth (.var 0) 9 [.var 1]) (.str 0)) [.ret (.tup [.str 7, .var 1, .var 2, .var 3])] [], .ret (.tup [.str 7, .var 1, .var 3, .var 2])]⟩
def measure : Def := ⟨1, 5, [.set 1 (.int 0), .set 2 (.int 0), .whl (.var 0) [.aug 2 .add (.int 1), .aug 1 .add (.bf .len [.var 0]), .ite (.or (.cmp .gt (.var 1) (.glo 0)) (.cmp .gt (.var 2) (.glo 2))) [.brk] [], .set 0 (.lc2 (.name 3) [3, 4] .seq [.var 0] (.name 4) [4] .seq [.call 12 [.var 3]] (.var 4))], .ret (.tup [.var 1, .var 2])]⟩
def parts_of : Def := ⟨1, 2, [.set 1 (.idx (.var 0) (.int 0)), .ite (.cmp .eq (.var 1) (.str 7)) [.ret (.slf (.var 0) (.int 2))] [], .ite (.cmp .isin (.var 1) (.tup [.str 12, .str 6])) [.ret (.idx (.var 0) (.int 2))] [], .ite (.cmp .isin (.var 1) (.tup [.str 5, .str 13])) [.ret (.call 13 [.var 0])] [], .ret (.tup [])]⟩
def inner_statements : Def := ⟨1, 1, [.ite (.cmp .eq (.idx (.var 0) (.int 0)) (.str 5)) [.ret (.tup [.idx (.var 0) (.int 1)])] [], .ret (.idx (.var 0) (.int 1))]⟩
def is_too_much : Def := ⟨1, 3, [.setT (.tup [.name 1, .name 2]) (.call 11 [.lst [.var 0]]), .ret (.or (.cmp .gt (.var 1) (.glo 0)) (.cmp .gt (.var 2) (.glo 2)))]⟩
def is_within : Def := ⟨3, 3, [.ret (.and (.isi (.var 0) .int) (.and (.not (.isi (.var 0) .bool)) (.chn .le .le (.var 1) (.var 0) (.var 2))))]⟩
def are_slots : Def := ⟨2, 3, [.ite (.or (.not (.isi (.var 0) .tuple)) (.cmp .gt (.bf .len [.var 0]) (.glo 8))) [.ret (.bl false)] [], .for (.name 2) .seq [.var 0] [.ite (.or (.not (.isi (.var 2) .tuple)) (.or (.cmp .ne (.bf .len [.var 2]) (.int 2)) (.cmp .notin (.idx (.var 2) (.int 0)) (.tup [.str 0, .str 1])))) [.ret (.bl false)] [], .ite (.not (.call 15 [.idx (.var 2) (.int 1), .int 0, .bin .sub (.var 1) (.int 1)])) [.ret (.bl false)] []], .ret (.bl true)]⟩
def is_declaration : Def := ⟨2, 3, [.ite (.or (.not (.isi (.var 0) .tuple)) (.or (.cmp .ne (.bf .len [.var 0]) (.int 2)) (.cmp .notin (.idx (.var 0) (.int 0)) (.tup [.str 4, .str 14])))) [.ret (.bl false)] [], .ite (.or (.not (.isi (.idx (.var 0) (.int 1)) .tuple)) (.not (.chn .le .le (.int 1) (.bf .len [.idx (.var 0) (.int 1)]) (.glo 6)))) [.ret (.bl false)] [], .for (.name 2) .seq [.idx (.var 0) (.int 1)] [.ite (.not (.call 16 [.var 2, .var 1])) [.ret (.bl false)] []], .ret (.bl true)]⟩
def are_declarations : Def := ⟨1, 2, [.ite (.or (.not (.isi (.var 0) .tuple)) (.not (.chn .le .le (.int 1) (.bf .len [.var 0]) (.glo 4)))) [.ret (.bl false)] [], .for (.name 1) .seq [.var 0] [.ite (.not (.call 17 [.var 1, .bf .len [.var 0]])) [.ret (.bl false)] []], .ret (.bl true)]⟩
def Judge___init__ : Def := ⟨2, 2, [.setF (.var 0) 15 (.var 1), .setF (.var 0) 16 (.int 0), .setF (.var 0) 17 (.int 0)]⟩
def Judge_has_form : Def := ⟨3, 3, [.ite (.or (.not (.isi (.var 1) .tuple)) (.or (.not (.var 1)) (.or (.not (.isi (.idx (.var 1) (.int 0)) .str)) (.cmp .notin (.idx (.var 1) (.int 0)) (.var 2))))) [.ret (.bl false)] [], .ret (.cmp .eq (.bf .len [.var 1]) (.idx (.var 2) (.idx (.var 1) (.int 0))))]⟩
def Judge_met : Def := ⟨2, 2, [.augF (.var 0) 16 .add (.int 1), .setF (.var 0) 17 (.bf .max [.fld (.var 0) 17, .var 1]), .ret (.cmp .le (.var 1) (.glo 18))]⟩
def Judge_statement : Def := ⟨4, 8, [.ite (.or (.not (.mth (.var 0) 23 [.var 3])) (.not (.mth (.var 0) 24 [.var 2, .dic [7, 12, 18] [.int 4, .int 3, .int 2]]))) [.ret (.bl false)] [], .ite (.cmp .eq (.idx (.var 2) (.int 0)) (.str 18)) [.ret (.call 15 [.idx (.var 2) (.int 1), .int 0, .glo 16])] [], .ite (.cmp .eq (.idx (.var 2) (.int 0)) (.str 7)) [.setT (.tup [.name 4, .name 5, .name 6, .name 7]) (.var 2), .ite (.not (.call 15 [.var 5, .int 0, .bin .sub (.bf .len [.fld (.fld (.var 0) 15) 2]) (.int 1)])) [.ret (.bl false)] [], .ret (.and (.mth (.var 0) 25 [.var 1, .tup [.str 0, .var 5], .var 6, .bin .add (.var 3) (.int 1)]) (.mth (.var 0) 25 [.var 1, .tup [.str 1, .var 5], .var 7, .bin .add (.var 3) (.int 1)]))] [], .ite (.not (.call 15 [.idx (.var 2) (.int 1), .int 0, .bin .sub (.bf .len [.fld (.fld (.var 0) 15) 3]) (.int 1)])) [.ret (.bl false)] [], .ret (.mth (.var 0) 19 [.var 1, .mth (.fld (.var 0) 15) 21 [.idx (.var 2) (.int 1)], .idx (.var 2) (.int 2), .bin .add (.var 3) (.int 1)])]⟩
def Judge_terms : Def := ⟨5, 7, [.ite (.or (.not (.isi (.var 3) .tuple)) (.cmp .ne (.bf .len [.var 3]) (.bf .len [.var 2]))) [.ret (.bl false)] [], .for (.tup [.name 5, .name 6]) .zip [.var 2, .var 3] [.ite (.not (.mth (.var 0) 25 [.var 1, .var 5, .var 6, .var 4])) [.ret (.bl false)] []], .ret (.bl true)]⟩
def Judge_term : Def := ⟨5, 10, [.ite (.or (.not (.mth (.var 0) 23 [.var 4])) (.not (.mth (.var 0) 24 [.var 3, .dic [20, 5, 6, 13] [.int 2, .int 2, .int 3, .int 2]]))) [.ret (.bl false)] [], .setT (.tup [.name 6, .name 7]) (.var 2), .ite (.cmp .eq (.idx (.var 3) (.int 0)) (.str 20)) [.ret (.and (.call 15 [.idx (.var 3) (.int 1), .int 0, .bin .sub (.bf .len [.var 1]) (.int 1)]) (.cmp .eq (.idx (.var 1) (.idx (.var 3) (.int 1))) (.var 2)))] [], .ite (.cmp .eq (.idx (.var 3) (.int 0)) (.str 5)) [.ret (.mth (.var 0) 22 [.bin .add (.var 1) (.tup [.tup [.call 1 [.var 6], .var 7]]), .idx (.var 3) (.int 1), .bin .add (.var 4) (.int 1)])] [], .set 5 (.mth (.fld (.var 0) 15) 11 [.var 7]), .ite (.cmp .eq (.idx (.var 3) (.int 0)) (.str 6)) [.ite (.or (.cmp .ne (.var 6) (.mth (.fld (.var 0) 15) 9 [.var 7])) (.not (.call 15 [.idx (.var 3) (.int 1), .int 0, .bin .sub (.bf .len [.var 5]) (.int 1)]))) [.ret (.bl false)] [], .ret (.mth (.var 0) 19 [.var 1, .idx (.var 5) (.idx (.var 3) (.int 1)), .idx (.var 3) (.int 2), .bin .add (.var 4) (.int 1)])] [], .ite (.or (.cmp .eq (.var 6) (.mth (.fld (.var 0) 15) 9 [.var 7])) (.or (.not (.isi (.idx (.var 3) (.int 1)) .tuple)) (.cmp .ne (.bf .len [.idx (.var 3) (.int 1)]) (.bf .len [.var 5])))) [.ret (.bl false)] [], .for (.tup [.name 8, .name 9]) .zip [.var 5, .idx (.var 3) (.int 1)] [.ite (.not (.mth (.var 0) 22 [.bin .add (.var 1) (.var 8), .var 9, .bin .add (.var 4) (.int 1)])) [.ret (.bl false)] []], .ret (.bl true)]⟩
def are_headed : Def := ⟨2, 3, [.ite (.or (.not (.isi (.var 0) .tuple)) (.not (.chn .le .le (.int 1) (.bf .len [.var 0]) (.glo 10)))) [.ret (.bl false)] [], .for (.name 2) .seq [.var 0] [.ite (.or (.not (.isi (.var 2) .tuple)) (.or (.cmp .ne (.bf .len [.var 2]) (.int 2)) (.not (.call 16 [.idx (.var 2) (.int 0), .var 1])))) [.ret (.bl false)] []], .ret (.cmp .eq (.idx (.idx (.var 0) (.int 0)) (.int 0)) (.tup []))]⟩
def is_program : Def := ⟨1, 4, [.ite (.or (.not (.isi (.var 0) .tuple)) (.or (.cmp .ne (.bf .len [.var 0]) (.int 2)) (.or (.not (.call 18 [.idx (.var 0) (.int 0)])) (.not (.call 25 [.idx (.var 0) (.int 1), .bf .len [.idx (.var 0) (.int 0)]]))))) [.ret (.bl false)] [], .set 1 (.mk 1 [.mk 0 [.var 0]]), .for (.tup [.name 2, .name 3]) .seq [.idx (.var 0) (.int 1)] [.ite (.not (.mth (.var 1) 22 [.var 2, .var 3, .int 1])) [.ret (.bl false)] []], .ret (.and (.cmp .le (.fld (.var 1) 16) (.glo 14)) (.cmp .le (.fld (.var 1) 17) (.glo 12)))]⟩
def check_program : Def := ⟨1, 1, [.ite (.not (.call 26 [.var 0])) [.never] []]⟩
def Placing___init__ : Def := ⟨5, 5, [.setF (.var 0) 15 (.var 1), .setF (.var 0) 26 (.var 2), .setF (.var 0) 19 (.var 3), .setF (.var 0) 27 (.var 4), .setF (.var 0) 28 (.bin .add (.var 2) (.bf .len [.var 3]))]⟩
def Placing_variable : Def := ⟨4, 5, [.ite (.cmp .lt (.var 2) (.fld (.var 0) 26)) [.ret (.tup [.str 20, .var 2])] [], .ite (.cmp .ge (.var 2) (.fld (.var 0) 28)) [.ret (.tup [.str 20, .bin .add (.bin .sub (.var 2) (.fld (.var 0) 28)) (.fld (.var 0) 27)])] [], .set 4 (.idx (.fld (.var 0) 19) (.bin .sub (.var 2) (.fld (.var 0) 26))), .ite (.cmp .eq (.var 3) (.int 0)) [.ret (.var 4)] [], .ret (.mth (.mk 2 [.fld (.var 0) 15, .fld (.var 0) 27, .tup [], .bin .add (.fld (.var 0) 27) (.var 3)]) 25 [.var 1, .var 4, .int 0])]⟩
def Placing_statement : Def := ⟨3, 3, [.ite (.cmp .eq (.idx (.var 1) (.int 0)) (.str 7)) [.ret (.tup [.str 7, .idx (.var 1) (.int 1), .mth (.var 0) 25 [.idx (.var 1) (.int 1), .idx (.var 1) (.int 2), .var 2], .mth (.var 0) 25 [.idx (.var 1) (.int 1), .idx (.var 1) (.int 3), .var 2]])] [], .ite (.cmp .eq (.idx (.var 1) (.int 0)) (.str 12)) [.ret (.tup [.str 12, .idx (.var 1) (.int 1), .mth (.var 0) 31 [.mth (.fld (.var 0) 15) 21 [.idx (.var 1) (.int 1)], .idx (.var 1) (.int 2), .var 2]])] [], .ret (.var 1)]⟩
def Placing_all_terms : Def := ⟨4, 6, [.ret (.bf .tuple [.lc (.tup [.name 4, .name 5]) [4, 5] .zip [.var 1, .var 2] [] (.mth (.var 0) 25 [.idx (.var 4) (.int 1), .var 5, .var 3])])]⟩
def Placing_term : Def := ⟨4, 8, [.ite (.cmp .eq (.idx (.var 2) (.int 0)) (.str 20)) [.ret (.mth (.var 0) 29 [.var 1, .idx (.var 2) (.int 1), .var 3])] [], .ite (.cmp .eq (.idx (.var 2) (.int 0)) (.str 5)) [.ret (.tup [.str 5, .mth (.var 0) 22 [.idx (.var 2) (.int 1), .bin .add (.var 3) (.int 1)]])] [], .set 4 (.mth (.fld (.var 0) 15) 11 [.var 1]), .ite (.cmp .eq (.idx (.var 2) (.int 0)) (.str 6)) [.ret (.tup [.str 6, .idx (.var 2) (.int 1), .mth (.var 0) 31 [.idx (.var 4) (.idx (.var 2) (.int 1)), .idx (.var 2) (.int 2), .var 3]])] [], .set 5 (.lst []), .for (.tup [.name 6, .name 7]) .zip [.var 4, .idx (.var 2) (.int 1)] [.expr (.bm .append (.var 5) [.mth (.var 0) 22 [.var 7, .bin .add (.var 3) (.bf .len [.var 6])]])], .ret (.tup [.str 13, .bf .tuple [.var 5]])]⟩
def put : Def := ⟨5, 5, [.ret (.mth (.mk 2 [.var 0, .var 2, .var 3, .var 4]) 22 [.var 1, .int 0])]⟩
def first_unplain : Def := ⟨3, 7, [.for (.tup [.name 3, .name 4]) .enm [.var 1] [.set 5 (.idx (.var 2) (.var 3)), .ite (.and (.cmp .eq (.idx (.var 5) (.int 0)) (.str 5)) (.not (.mth (.var 0) 10 [.var 4, .var 5]))) [.ret (.tup [.tup [.var 3], .var 4, .var 5])] [], .ite (.cmp .eq (.idx (.var 5) (.int 0)) (.str 6)) [.set 6 (.call 65 [.var 0, .idx (.mth (.var 0) 11 [.idx (.var 4) (.int 1)]) (.idx (.var 5) (.int 1)), .idx (.var 5) (.int 2)]), .ite (.isn true (.var 6)) [.ret (.tup [.bin .add (.tup [.var 3]) (.idx (.var 6) (.int 0)), .idx (.var 6) (.int 1), .idx (.var 6) (.int 2)])] []] []], .ret .non]⟩
def with_arg : Def := ⟨3, 5, [.set 3 (.idx (.var 1) (.int 0)), .set 4 (.var 2), .ite (.cmp .gt (.bf .len [.var 1]) (.int 1)) [.set 4 (.tup [.str 6, .idx (.idx (.var 0) (.var 3)) (.int 1), .call 66 [.idx (.idx (.var 0) (.var 3)) (.int 2), .slf (.var 1) (.int 1), .var 2]])] [], .ret (.bin .add (.bin .add (.slt (.var 0) (.var 3)) (.tup [.var 4])) (.slf (.var 0) (.bin .add (.var 3) (.int 1))))]⟩
def unplain_in : Def := ⟨2, 3, [.ite (.cmp .eq (.idx (.var 1) (.int 0)) (.str 12)) [.ret (.call 65 [.var 0, .mth (.var 0) 21 [.idx (.var 1) (.int 1)], .idx (.var 1) (.int 2)])] [], .ite (.cmp .eq (.idx (.var 1) (.int 0)) (.str 7)) [.set 2 (.idx (.mth (.var 0) 40 [.var 1]) (.int 0)), .ite (.cmp .eq (.idx (.var 2) (.int 0)) (.str 6)) [.ret (.call 65 [.var 0, .idx (.mth (.var 0) 11 [.idx (.var 1) (.int 1)]) (.idx (.var 2) (.int 1)), .idx (.var 2) (.int 2)])] []] [], .ret .non]⟩
def without_arg : Def := ⟨4, 8, [.set 4 (.call 37 [.var 0, .var 1, .var 3, .tup [], .bin .add (.var 3) (.int 1)]), .set 5 (.tup [.str 20, .var 3]), .ite (.cmp .eq (.idx (.var 4) (.int 0)) (.str 12)) [.ret (.tup [.str 12, .idx (.var 4) (.int 1), .call 66 [.idx (.var 4) (.int 2), .var 2, .var 5]])] [], .setT (.tup [.name 6, .name 7]) (.mth (.var 0) 40 [.var 4]), .ret (.mth (.var 0) 7 [.idx (.var 4) (.int 1), .tup [.str 6, .idx (.var 6) (.int 1), .call 66 [.idx (.var 6) (.int 2), .var 2, .var 5]], .var 7])]⟩
def lifted : Def := ⟨3, 7, [.set 3 (.call 67 [.var 0, .var 1]), .ite (.isn false (.var 3)) [.ret .non] [], .setT (.tup [.name 4, .name 5, .name 6]) (.var 3), .ret (.tup [.var 5, .var 6, .call 68 [.var 0, .var 1, .var 4, .var 2]])]⟩
def cut_of : Def := ⟨3, 3, [.ite (.cmp .eq (.idx (.var 0) (.int 0)) (.str 0)) [.ret (.tup [.str 7, .idx (.var 0) (.int 1), .var 1, .tup [.str 5, .var 2]])] [], .ret (.tup [.str 7, .idx (.var 0) (.int 1), .tup [.str 5, .var 2], .var 1])]⟩
def bound : Def := ⟨3, 5, [.setT (.tup [.name 3, .name 4]) (.mth (.var 0) 40 [.var 1]), .ite (.cmp .ne (.idx (.var 3) (.int 0)) (.str 5)) [.ret .non] [], .ret (.call 37 [.var 0, .idx (.var 3) (.int 1), .var 2, .tup [.var 4], .var 2])]⟩
def handed : Def := ⟨3, 5, [.setT (.tup [.name 3, .name 4]) (.mth (.var 0) 40 [.var 1]), .ite (.or (.cmp .ne (.idx (.var 4) (.int 0)) (.str 5)) (.cmp .notin (.idx (.var 3) (.int 0)) (.tup [.str 6, .str 20]))) [.ret .non] [], .ite (.not (.mth (.var 0) 10 [.tup [.mth (.var 0) 9 [.idx (.var 1) (.int 1)], .idx (.var 1) (.int 1)], .var 3])) [.ret .non] [], .ret (.call 37 [.var 0, .idx (.var 4) (.int 1), .var 2, .tup [.var 3], .var 2])]⟩
def matched_up : Def := ⟨3, 5, [.setT (.tup [.name 3, .name 4]) (.mth (.var 0) 40 [.var 1]), .ite (.or (.cmp .ne (.idx (.var 4) (.int 0)) (.str 13)) (.cmp .ne (.idx (.var 3) (.int 0)) (.str 6))) [.ret .non] [], .ite (.not (.mth (.var 0) 10 [.tup [.mth (.var 0) 9 [.idx (.var 1) (.int 1)], .idx (.var 1) (.int 1)], .var 3])) [.ret .non] [], .ret (.call 37 [.var 0, .idx (.idx (.var 4) (.int 1)) (.idx (.var 3) (.int 1)), .var 2, .idx (.var 3) (.int 2), .var 2])]⟩
def called : Def := ⟨3, 6, [.setT (.tup [.name 3, .name 4, .name 5]) (.var 1), .ite (.not (.mth (.var 0) 8 [.mth (.var 0) 21 [.var 4], .var 5])) [.ret .non] [], .ret (.call 37 [.var 0, .mth (.var 0) 42 [.var 4], .int 0, .var 5, .var 2])]⟩
def begin : Def := ⟨1, 1, [.expr (.call 27 [.var 0]), .ret (.mth (.mk 0 [.var 0]) 42 [.int 0])]⟩
def after : Def := ⟨2, 7, [.ite (.cmp .eq (.idx (.var 1) (.int 0)) (.str 18)) [.ret .non] [], .set 2 (.call 69 [.var 0, .var 1, .int 0]), .ite (.isn true (.var 2)) [.setT (.tup [.name 4, .name 5, .name 6]) (.var 2), .ite (.or (.cmp .eq (.idx (.var 1) (.int 0)) (.str 12)) (.cmp .eq (.idx (.idx (.mth (.var 0) 40 [.var 1]) (.int 0)) (.int 0)) (.str 6))) [.ret (.call 70 [.var 4, .var 5, .var 6])] []] [], .ite (.cmp .eq (.idx (.var 1) (.int 0)) (.str 12)) [.ret (.call 146 [.var 0, .var 1, .int 0])] [], .for (.name 3) .seq [.tup [.glo 123, .glo 125, .glo 127]] [.set 2 (.callv 3 [.var 0, .var 1, .int 0]), .ite (.isn true (.var 2)) [.ret (.var 2)] []], .ret .non]⟩
def bounded : Def := ⟨1, 1, [.ite (.and (.isn true (.var 0)) (.call 14 [.var 0])) [.never] [], .ret (.var 0)]⟩
def step : Def := ⟨2, 2, [.expr (.call 27 [.var 0]), .ret (.call 148 [.call 147 [.mk 0 [.var 0], .call 148 [.var 1]]])]⟩
def _law_box : Def := ⟨1, 2, [.ret (.lst [.int 0, .int 0, .int 0, .lc (.name 1) [1] .seq [.var 0] [] (.bf .abs [.bf .int [.var 1]])])]⟩
def _law_take2 : Def := ⟨2, 5, [.ite (.cmp .eq (.idx (.var 0) (.int 1)) (.int 0)) [.set 2 (.idx (.var 0) (.int 2)), .set 3 (.int 0), .ite (.cmp .lt (.var 2) (.bf .len [.idx (.var 0) (.int 3)])) [.set 3 (.idx (.idx (.var 0) (.int 3)) (.var 2)), .setI (.var 0) (.int 1) (.ite (.cmp .ge (.var 3) (.bin .pow (.int 10) (.int 18))) (.int 60) (.neg (.int 9)))] [], .setI (.var 0) (.int 2) (.bin .add (.var 2) (.int 1)), .setI (.var 0) (.int 0) (.var 3), .ite (.cmp .eq (.idx (.var 0) (.int 1)) (.int 0)) [.ret (.int 0)] []] [], .ite (.cmp .gt (.idx (.var 0) (.int 1)) (.int 0)) [.set 4 (.bin .mod (.bf .int [.idx (.var 0) (.int 0)]) (.var 1)), .setI (.var 0) (.int 0) (.bin .fdiv (.idx (.var 0) (.int 0)) (.var 1)), .setI (.var 0) (.int 1) (.ite (.cmp .gt (.idx (.var 0) (.int 0)) (.int 0)) (.bin .sub (.idx (.var 0) (.int 1)) (.int 1)) (.int 0)), .ret (.var 4)] [], .setI (.var 0) (.int 1) (.bin .add (.idx (.var 0) (.int 1)) (.int 1)), .setI (.var 0) (.int 0) (.bin .mod (.bf .int [.bin .add (.bin .mul (.idx (.var 0) (.int 0)) (.int 48271)) (.bin .mul (.int 69621) (.bin .add (.idx (.var 0) (.int 1)) (.int 20)))]) (.int 2147483647)), .ret (.bin .mod (.bin .mod (.bf .int [.bin .add (.bin .fdiv (.idx (.var 0) (.int 0)) (.int 7)) (.idx (.var 0) (.int 0))]) (.int 1000003)) (.var 1))]⟩
def _law_pick : Def := ⟨2, 2, [.ret (.idx (.var 1) (.call 132 [.var 0, .bf .len [.var 1]]))]⟩
def _law_declared : Def := ⟨1, 7, [.set 1 (.call 87 [.var 0, .lst [.int 1, .int 2, .int 2, .int 3, .int 5]]), .set 2 (.lst []), .for (.name 3) .rng1 [.var 1] [.set 4 (.lst []), .for (.name 5) .rng1 [.call 87 [.var 0, .lst [.int 1, .int 2, .int 2, .int 3, .int 4]]] [.expr (.bm .append (.var 4) [.bf .tuple [.lc (.name 6) [6] .rng1 [.call 87 [.var 0, .lst [.int 0, .int 0, .int 1, .int 1, .int 2, .int 3]]] [] (.tup [.call 87 [.var 0, .lst [.str 0, .str 1]], .call 132 [.var 0, .var 1]])]])], .expr (.bm .append (.var 2) [.tup [.call 87 [.var 0, .lst [.str 4, .str 14]], .bf .tuple [.var 4]]])], .ret (.bf .tuple [.var 2])]⟩
def _law_statement2 : Def := ⟨4, 9, [.set 4 (.call 132 [.var 0, .int 8]), .ite (.or (.cmp .le (.var 3) (.int 1)) (.cmp .eq (.var 4) (.int 0))) [.ret (.tup [.str 18, .call 132 [.var 0, .int 10]])] [], .ite (.cmp .lt (.var 4) (.int 4)) [.set 6 (.call 132 [.var 0, .bf .len [.idx (.var 1) (.int 1)]]), .set 7 (.bin .fdiv (.bin .sub (.var 3) (.int 1)) (.bf .max [.int 1, .bf .len [.idx (.idx (.var 1) (.int 1)) (.var 6)]])), .ret (.tup [.str 12, .var 6, .bf .tuple [.lc (.name 8) [8] .seq [.idx (.idx (.var 1) (.int 1)) (.var 6)] [] (.call 152 [.var 0, .var 1, .var 2, .var 8, .var 7])]])] [], .set 5 (.call 132 [.var 0, .bf .len [.idx (.var 1) (.int 0)]]), .ret (.tup [.str 7, .var 5, .call 152 [.var 0, .var 1, .var 2, .tup [.str 0, .var 5], .bin .fdiv (.bin .sub (.var 3) (.int 1)) (.int 2)], .call 152 [.var 0, .var 1, .var 2, .tup [.str 1, .var 5], .bin .fdiv (.bin .sub (.var 3) (.int 1)) (.int 2)]])]⟩
def _law_term3 : Def := ⟨5, 16, [.set 5 (.lc (.name 13) [13] .rng1 [.bf .len [.var 2]] [.cmp .eq (.idx (.var 2) (.var 13)) (.var 3)] (.var 13)), .ite (.and (.var 5) (.or (.cmp .le (.var 4) (.int 1)) (.cmp .gt (.call 132 [.var 0, .int 3]) (.int 0)))) [.ret (.tup [.str 20, .call 87 [.var 0, .var 5]])] [], .setT (.tup [.name 10, .name 11]) (.idx (.idx (.var 1) (.int 0)) (.idx (.var 3) (.int 1))), .set 6 (.cmp .eq (.idx (.var 3) (.int 0)) (.ite (.cmp .eq (.var 10) (.str 4)) (.str 0) (.str 1))), .set 7 (.lc (.name 8) [8] .rng1 [.bf .len [.var 11]] [.cmp .eq (.idx (.var 11) (.var 8)) (.tup [])] (.var 8)), .ite (.and (.cmp .le (.var 4) (.int 1)) (.and (.var 6) (.var 7))) [.ret (.tup [.str 6, .call 87 [.var 0, .var 7], .tup []])] [], .ite (.or (.cmp .le (.var 4) (.int 1)) (.cmp .eq (.call 132 [.var 0, .int 3]) (.int 0))) [.set 12 (.ite (.cmp .eq (.idx (.var 3) (.int 0)) (.str 0)) (.str 1) (.str 0)), .ret (.tup [.str 5, .call 151 [.var 0, .var 1, .bin .add (.var 2) (.tup [.tup [.var 12, .idx (.var 3) (.int 1)]]), .bin .sub (.var 4) (.int 1)]])] [], .ite (.not (.var 6)) [.set 9 (.bin .fdiv (.bin .sub (.var 4) (.int 1)) (.bf .len [.var 11])), .ret (.tup [.str 13, .bf .tuple [.lc (.name 15) [15] .seq [.var 11] [] (.call 151 [.var 0, .var 1, .bin .add (.var 2) (.var 15), .var 9])]])] [], .set 8 (.call 132 [.var 0, .bf .len [.var 11]]), .set 9 (.bin .fdiv (.bin .sub (.var 4) (.int 1)) (.bf .max [.int 1, .bf .len [.idx (.var 11) (.var 8)]])), .ret (.tup [.str 6, .var 8, .bf .tuple [.lc (.name 14) [14] .seq [.idx (.var 11) (.var 8)] [] (.call 152 [.var 0, .var 1, .var 2, .var 14, .var 9])]])]⟩
def _law_program2 : Def := ⟨1, 9, [.set 1 (.call 150 [.var 0]), .set 2 (.lst [.tup []]), .for (.name 3) .rng1 [.call 87 [.var 0, .lst [.int 0, .int 1, .int 2, .int 2, .int 3, .int 5]]] [.expr (.bm .append (.var 2) [.bf .tuple [.lc (.name 8) [8] .rng1 [.call 132 [.var 0, .int 4]] [] (.tup [.call 87 [.var 0, .lst [.str 0, .str 1]], .call 132 [.var 0, .bf .len [.var 1]]])]])], .set 4 (.tup [.var 1, .bf .tuple [.var 2]]), .set 5 (.call 87 [.var 0, .lst [.int 6, .int 10, .int 16, .int 24]]), .set 6 (.tup [.var 1, .bf .tuple [.lc (.name 7) [7] .seq [.var 2] [] (.tup [.var 7, .call 151 [.var 0, .var 4, .var 7, .var 5]])]]), .ret (.ite (.call 164 [.var 6]) (.var 6) (.tup [.var 1, .tup [.tup [.tup [], .tup [.str 18, .int 0]]]]))]⟩
def _law_making : Def := ⟨2, 2, [.ret (.ite (.cmp .eq (.idx (.idx (.idx (.var 0) (.int 0)) (.var 1)) (.int 0)) (.str 4)) (.str 0) (.str 1))]⟩
def _law_lift : Def := ⟨3, 6, [.set 3 (.idx (.var 0) (.int 0)), .ite (.cmp .eq (.var 3) (.str 20)) [.ret (.ite (.cmp .ge (.idx (.var 0) (.int 1)) (.var 1)) (.tup [.str 20, .bin .add (.idx (.var 0) (.int 1)) (.var 2)]) (.var 0))] [], .ite (.cmp .eq (.var 3) (.str 5)) [.ret (.tup [.str 5, .call 154 [.idx (.var 0) (.int 1), .var 1, .var 2]])] [], .ite (.cmp .eq (.var 3) (.str 13)) [.ret (.tup [.str 13, .bf .tuple [.lc (.name 4) [4] .seq [.idx (.var 0) (.int 1)] [] (.call 154 [.var 4, .var 1, .var 2])]])] [], .ite (.cmp .isin (.var 3) (.tup [.str 6, .str 12])) [.ret (.tup [.var 3, .idx (.var 0) (.int 1), .bf .tuple [.lc (.name 5) [5] .seq [.idx (.var 0) (.int 2)] [] (.call 154 [.var 5, .var 1, .var 2])]])] [], .ite (.cmp .eq (.var 3) (.str 7)) [.ret (.tup [.str 7, .idx (.var 0) (.int 1), .call 154 [.idx (.var 0) (.int 2), .var 1, .var 2], .call 154 [.idx (.var 0) (.int 3), .var 1, .var 2]])] [], .ret (.var 0)]⟩
def _law_put : Def := ⟨6, 8, [.ite (.cmp .eq (.idx (.var 1) (.int 0)) (.str 18)) [.ret (.var 1)] [], .ite (.cmp .eq (.idx (.var 1) (.int 0)) (.str 12)) [.set 6 (.idx (.idx (.idx (.var 0) (.int 1)) (.idx (.var 1) (.int 1))) (.int 0)), .ret (.tup [.str 12, .idx (.var 1) (.int 1), .bf .tuple [.lc (.name 7) [7] .rng1 [.bf .len [.var 6]] [] (.call 156 [.var 0, .idx (.idx (.var 6) (.var 7)) (.int 1), .idx (.idx (.var 1) (.int 2)) (.var 7), .var 2, .var 3, .var 4, .var 5])]])] [], .ret (.tup [.str 7, .idx (.var 1) (.int 1), .call 156 [.var 0, .idx (.var 1) (.int 1), .idx (.var 1) (.int 2), .var 2, .var 3, .var 4, .var 5], .call 156 [.var 0, .idx (.var 1) (.int 1), .idx (.var 1) (.int 3), .var 2, .var 3, .var 4, .var 5]])]⟩
def _law_put_term : Def := ⟨7, 11, [.ite (.cmp .eq (.idx (.var 2) (.int 0)) (.str 20)) [.set 9 (.idx (.var 2) (.int 1)), .ite (.cmp .lt (.var 9) (.var 4)) [.ret (.var 2)] [], .ite (.cmp .lt (.var 9) (.bin .add (.var 4) (.bf .len [.var 5]))) [.ret (.call 154 [.idx (.var 5) (.bin .sub (.var 9) (.var 4)), .var 6, .bin .sub (.bin .sub (.var 3) (.var 4)) (.bf .len [.var 5])])] [], .ret (.tup [.str 20, .bin .add (.bin .sub (.bin .sub (.var 9) (.var 4)) (.bf .len [.var 5])) (.var 6)])] [], .ite (.cmp .eq (.idx (.var 2) (.int 0)) (.str 5)) [.ret (.tup [.str 5, .call 155 [.var 0, .idx (.var 2) (.int 1), .bin .add (.var 3) (.int 1), .var 4, .var 5, .var 6]])] [], .set 7 (.idx (.idx (.idx (.var 0) (.int 0)) (.var 1)) (.int 1)), .ite (.cmp .eq (.idx (.var 2) (.int 0)) (.str 13)) [.ret (.tup [.str 13, .bf .tuple [.lc (.name 10) [10] .rng1 [.bf .len [.var 7]] [] (.call 155 [.var 0, .idx (.idx (.var 2) (.int 1)) (.var 10), .bin .add (.var 3) (.bf .len [.idx (.var 7) (.var 10)]), .var 4, .var 5, .var 6])]])] [], .set 8 (.idx (.var 7) (.idx (.var 2) (.int 1))), .ret (.tup [.str 6, .idx (.var 2) (.int 1), .bf .tuple [.lc (.name 9) [9] .rng1 [.bf .len [.var 8]] [] (.call 156 [.var 0, .idx (.idx (.var 8) (.var 9)) (.int 1), .idx (.idx (.var 2) (.int 2)) (.var 9), .var 3, .var 4, .var 5, .var 6])]])]⟩
def _law_is_plain2 : Def := ⟨3, 5, [.ite (.cmp .isin (.idx (.var 2) (.int 0)) (.tup [.str 20, .str 13])) [.ret (.bl true)] [], .ite (.cmp .eq (.idx (.var 2) (.int 0)) (.str 5)) [.ret (.cmp .ne (.idx (.var 1) (.int 0)) (.call 135 [.var 0, .idx (.var 1) (.int 1)]))] [], .set 3 (.idx (.idx (.idx (.idx (.var 0) (.int 0)) (.idx (.var 1) (.int 1))) (.int 1)) (.idx (.var 2) (.int 1))), .ret (.cmp .notin (.bl false) (.lc (.name 4) [4] .rng1 [.bf .len [.var 3]] [] (.call 157 [.var 0, .idx (.var 3) (.var 4), .idx (.idx (.var 2) (.int 2)) (.var 4)])))]⟩
def _law_are_plain2 : Def := ⟨3, 4, [.ret (.cmp .notin (.bl false) (.lc (.name 3) [3] .rng1 [.bf .len [.var 1]] [] (.call 157 [.var 0, .idx (.var 1) (.var 3), .idx (.var 2) (.var 3)])))]⟩
def _law_pull : Def := ⟨4, 10, [.set 4 .non, .set 5 (.lst []), .for (.name 6) .rng1 [.bf .len [.var 1]] [.ite (.or (.isn true (.var 4)) (.call 157 [.var 0, .idx (.var 1) (.var 6), .idx (.var 2) (.var 6)])) [.expr (.bm .append (.var 5) [.call 154 [.idx (.var 2) (.var 6), .var 3, .int 1]])] [.ite (.cmp .eq (.idx (.idx (.var 2) (.var 6)) (.int 0)) (.str 6)) [.setT (.tup [.name 7, .name 8, .name 9]) (.call 159 [.var 0, .idx (.idx (.idx (.idx (.var 0) (.int 0)) (.idx (.idx (.var 1) (.var 6)) (.int 1))) (.int 1)) (.idx (.idx (.var 2) (.var 6)) (.int 1)), .idx (.idx (.var 2) (.var 6)) (.int 2), .var 3]), .set 4 (.tup [.var 7, .var 8]), .expr (.bm .append (.var 5) [.tup [.str 6, .idx (.idx (.var 2) (.var 6)) (.int 1), .var 9]])] [.set 4 (.tup [.idx (.var 1) (.var 6), .idx (.var 2) (.var 6)]), .expr (.bm .append (.var 5) [.tup [.str 20, .var 3]])]]], .ret (.tup [.idx (.var 4) (.int 0), .idx (.var 4) (.int 1), .bf .tuple [.var 5]])]⟩
def _law_sides : Def := ⟨2, 2, [.ite (.cmp .eq (.call 135 [.var 0, .idx (.var 1) (.int 1)]) (.str 0)) [.ret (.tup [.idx (.var 1) (.int 2), .idx (.var 1) (.int 3)])] [], .ret (.tup [.idx (.var 1) (.int 3), .idx (.var 1) (.int 2)])]⟩
def _law_third : Def := ⟨3, 13, [.ite (.cmp .eq (.idx (.var 1) (.int 0)) (.str 12)) [.par 7 8 (.idx (.idx (.idx (.var 0) (.int 1)) (.idx (.var 1) (.int 1))) (.int 0)) (.idx (.var 1) (.int 2))] [.ite (.and (.cmp .eq (.idx (.var 1) (.int 0)) (.str 7)) (.cmp .eq (.idx (.idx (.call 160 [.var 0, .var 1]) (.int 0)) (.int 0)) (.str 6))) [.set 9 (.idx (.call 160 [.var 0, .var 1]) (.int 0)), .par 7 8 (.idx (.idx (.idx (.idx (.var 0) (.int 0)) (.idx (.var 1) (.int 1))) (.int 1)) (.idx (.var 9) (.int 1))) (.idx (.var 9) (.int 2))] [.ret .non]], .ite (.call 158 [.var 0, .var 7, .var 8]) [.ret .non] [], .setT (.tup [.name 3, .name 4, .name 5]) (.call 159 [.var 0, .var 7, .var 8, .var 2]), .ite (.cmp .eq (.idx (.var 1) (.int 0)) (.str 12)) [.set 6 (.tup [.str 12, .idx (.var 1) (.int 1), .var 5])] [.setT (.tup [.name 9, .name 10]) (.call 160 [.var 0, .var 1]), .par 11 12 (.tup [.str 6, .idx (.var 9) (.int 1), .var 5]) (.call 154 [.var 10, .var 2, .int 1]), .set 6 (.ite (.cmp .eq (.call 135 [.var 0, .idx (.var 1) (.int 1)]) (.str 0)) (.tup [.str 7, .idx (.var 1) (.int 1), .var 11, .var 12]) (.tup [.str 7, .idx (.var 1) (.int 1), .var 12, .var 11]))], .ite (.cmp .eq (.idx (.var 3) (.int 0)) (.str 0)) [.ret (.tup [.str 7, .idx (.var 3) (.int 1), .var 4, .tup [.str 5, .var 6]])] [], .ret (.tup [.str 7, .idx (.var 3) (.int 1), .tup [.str 5, .var 6], .var 4])]⟩
def _law_reduced : Def := ⟨3, 7, [.ite (.cmp .eq (.idx (.var 1) (.int 0)) (.str 12)) [.setT (.tup [.name 5, .name 6]) (.idx (.idx (.var 0) (.int 1)) (.idx (.var 1) (.int 1))), .ite (.not (.call 158 [.var 0, .var 5, .idx (.var 1) (.int 2)])) [.ret .non] [], .ret (.tup [.str 12, .call 155 [.var 0, .var 6, .bf .len [.var 5], .int 0, .idx (.var 1) (.int 2), .var 2]])] [], .ite (.cmp .eq (.idx (.var 1) (.int 0)) (.str 18)) [.ret .non] [], .setT (.tup [.name 3, .name 4]) (.call 160 [.var 0, .var 1]), .ite (.cmp .eq (.idx (.var 3) (.int 0)) (.str 5)) [.ret (.tup [.str 5, .call 155 [.var 0, .idx (.var 3) (.int 1), .bin .add (.var 2) (.int 1), .var 2, .tup [.var 4], .var 2]])] [], .ite (.not (.call 157 [.var 0, .tup [.call 135 [.var 0, .idx (.var 1) (.int 1)], .idx (.var 1) (.int 1)], .var 3])) [.ret .non] [], .ite (.cmp .eq (.idx (.var 4) (.int 0)) (.str 5)) [.ret (.tup [.str 64, .call 155 [.var 0, .idx (.var 4) (.int 1), .bin .add (.var 2) (.int 1), .var 2, .tup [.var 3], .var 2]])] [], .ite (.and (.cmp .eq (.idx (.var 3) (.int 0)) (.str 6)) (.cmp .eq (.idx (.var 4) (.int 0)) (.str 13))) [.ret (.tup [.str 13, .call 155 [.var 0, .idx (.idx (.var 4) (.int 1)) (.idx (.var 3) (.int 1)), .bin .add (.var 2) (.bf .len [.idx (.var 3) (.int 2)]), .var 2, .idx (.var 3) (.int 2), .var 2]])] [], .ret .non]⟩
def _law_stepped : Def := ⟨2, 3, [.ite (.cmp .eq (.idx (.var 1) (.int 0)) (.str 18)) [.ret .non] [], .set 2 (.call 161 [.var 0, .var 1, .int 0]), .ite (.isn true (.var 2)) [.ret (.tup [.bl true, .var 2])] [], .ret (.tup [.bl false, .idx (.call 162 [.var 0, .var 1, .int 0]) (.int 1)])]⟩
def _law_size : Def := ⟨1, 4, [.set 1 (.idx (.var 0) (.int 0)), .ite (.cmp .isin (.var 1) (.tup [.str 20, .str 18])) [.ret (.int 1)] [], .ite (.cmp .eq (.var 1) (.str 5)) [.ret (.bin .add (.int 1) (.call 95 [.idx (.var 0) (.int 1)]))] [], .ite (.cmp .eq (.var 1) (.str 13)) [.ret (.bin .add (.int 1) (.bf .sum [.lc (.name 3) [3] .seq [.idx (.var 0) (.int 1)] [] (.call 95 [.var 3])]))] [], .ite (.cmp .eq (.var 1) (.str 7)) [.ret (.bin .add (.bin .add (.int 1) (.call 95 [.idx (.var 0) (.int 2)])) (.call 95 [.idx (.var 0) (.int 3)]))] [], .ret (.bin .add (.int 1) (.bf .sum [.lc (.name 2) [2] .seq [.idx (.var 0) (.int 2)] [] (.call 95 [.var 2])]))]⟩
def _law_deep : Def := ⟨1, 4, [.set 1 (.idx (.var 0) (.int 0)), .ite (.cmp .isin (.var 1) (.tup [.str 20, .str 18])) [.ret (.int 1)] [], .ite (.cmp .eq (.var 1) (.str 5)) [.ret (.bin .add (.int 1) (.call 96 [.idx (.var 0) (.int 1)]))] [], .ite (.cmp .eq (.var 1) (.str 13)) [.ret (.bin .add (.int 1) (.bf .max [.bin .add (.lst [.int 0]) (.lc (.name 3) [3] .seq [.idx (.var 0) (.int 1)] [] (.call 96 [.var 3]))]))] [], .ite (.cmp .eq (.var 1) (.str 7)) [.ret (.bin .add (.int 1) (.bf .max [.call 96 [.idx (.var 0) (.int 2)], .call 96 [.idx (.var 0) (.int 3)]]))] [], .ret (.bin .add (.int 1) (.bf .max [.bin .add (.lst [.int 0]) (.lc (.name 2) [2] .seq [.idx (.var 0) (.int 2)] [] (.call 96 [.var 2]))]))]⟩
def _law_fits2 : Def := ⟨1, 4, [.set 1 (.lc (.tup [.name 2, .name 3]) [2, 3] .seq [.idx (.var 0) (.int 1)] [] (.var 3)), .ret (.and (.cmp .le (.bf .sum [.lc (.name 3) [3] .seq [.var 1] [] (.call 95 [.var 3])]) (.int 400)) (.cmp .le (.bf .max [.lc (.name 3) [3] .seq [.var 1] [] (.call 96 [.var 3])]) (.int 30)))]⟩
def _law_small2 : Def := ⟨1, 1, [.ret (.and (.cmp .le (.call 96 [.var 0]) (.int 60)) (.cmp .le (.call 95 [.var 0]) (.int 1500)))]⟩
def _law_statements : Def := ⟨2, 6, [.par 3 4 (.lst [.idx (.idx (.idx (.var 0) (.int 1)) (.int 0)) (.int 1)]) (.lst []), .for (.name 2) .rng1 [.var 1] [.set 5 (.call 163 [.var 0, .idx (.var 3) (.var 2)]), .ite (.or (.isn false (.var 5)) (.not (.call 165 [.idx (.var 5) (.int 1)]))) [.brk] [], .expr (.bm .append (.var 4) [.idx (.var 5) (.int 0)]), .expr (.bm .append (.var 3) [.idx (.var 5) (.int 1)])], .ret (.tup [.var 3, .var 4])]⟩
def law4 : Def := ⟨1, 8, [.set 1 (.call 85 [.var 0]), .set 2 (.call 153 [.var 1]), .set 3 (.bf .repr [.var 2]), .ite (.cmp .ne (.bf .repr [.call 77 [.var 2]]) (.bf .repr [.idx (.idx (.idx (.var 2) (.int 1)) (.int 0)) (.int 1)])) [.ret (.bl false)] [], .setT (.tup [.name 6, .name 7]) (.call 166 [.var 2, .int 16]), .for (.name 4) .rng1 [.bf .len [.var 7]] [.ite (.cmp .ne (.bf .repr [.call 149 [.var 2, .idx (.var 6) (.var 4)]]) (.bf .repr [.idx (.var 6) (.bin .add (.var 4) (.int 1))])) [.ret (.bl false)] []], .set 5 (.idx (.var 6) (.bin .sub (.bf .len [.var 6]) (.int 1))), .ite (.and (.cmp .eq (.idx (.var 5) (.int 0)) (.str 18)) (.isn true (.call 149 [.var 2, .var 5]))) [.ret (.bl false)] [], .ret (.cmp .eq (.bf .repr [.var 2]) (.var 3))]⟩
def run : Def := ⟨2, 5, [.expr (.call 27 [.var 0]), .set 2 (.mk 0 [.var 0]), .set 3 (.mth (.var 2) 42 [.int 0]), .for (.name 4) .rng1 [.bin .add (.var 1) (.int 1)] [.ite (.cmp .eq (.idx (.var 3) (.int 0)) (.str 18)) [.ret (.tup [.idx (.var 3) (.int 1), .var 4])] [], .ite (.cmp .lt (.var 4) (.var 1)) [.set 3 (.call 148 [.call 147 [.var 2, .var 3]])] []], .ret .non]⟩
def law5 : Def := ⟨1, 8, [.set 1 (.call 85 [.var 0]), .set 2 (.call 153 [.var 1]), .set 3 (.call 87 [.var 1, .lst [.int 0, .int 1, .int 2, .int 3, .int 5, .int 10, .int 20, .int 40]]), .setT (.tup [.name 5, .name 6]) (.call 166 [.var 2, .var 3]), .set 4 (.idx (.var 5) (.bin .sub (.bf .len [.var 5]) (.int 1))), .ite (.cmp .eq (.idx (.var 4) (.int 0)) (.str 18)) [.set 7 (.tup [.idx (.var 4) (.int 1), .bf .len [.var 6]]), .ite (.or (.cmp .ne (.bf .repr [.call 168 [.var 2, .bf .len [.var 6]]]) (.bf .repr [.var 7])) (.cmp .ne (.bf .repr [.call 168 [.var 2, .int 300]]) (.bf .repr [.var 7]))) [.ret (.bl false)] [], .ite (.and (.cmp .gt (.bf .len [.var 6]) (.int 0)) (.isn true (.call 168 [.var 2, .bin .sub (.bf .len [.var 6]) (.int 1)]))) [.ret (.bl false)] [], .ret (.cmp .eq (.bf .repr [.call 168 [.var 2, .var 3]]) (.bf .repr [.var 7]))] [], .ret (.or (.cmp .lt (.bf .len [.var 6]) (.var 3)) (.isn false (.call 168 [.var 2, .var 3])))]⟩
def mirrored : Def := ⟨1, 6, [.ite (.cmp .eq (.idx (.var 0) (.int 0)) (.str 7)) [.setT (.tup [.name 1, .name 2, .name 3, .name 4]) (.var 0), .ret (.tup [.str 7, .var 2, .call 62 [.var 4], .call 62 [.var 3]])] [], .ite (.cmp .eq (.idx (.var 0) (.int 0)) (.str 12)) [.ret (.tup [.str 12, .idx (.var 0) (.int 1), .bf .tuple [.lc (.name 5) [5] .seq [.idx (.var 0) (.int 2)] [] (.call 62 [.var 5])]])] [], .ret (.var 0)]⟩
def mirrored_term : Def := ⟨1, 3, [.ite (.cmp .eq (.idx (.var 0) (.int 0)) (.str 5)) [.ret (.tup [.str 5, .call 61 [.idx (.var 0) (.int 1)]])] [], .ite (.cmp .eq (.idx (.var 0) (.int 0)) (.str 6)) [.ret (.tup [.str 6, .idx (.var 0) (.int 1), .bf .tuple [.lc (.name 1) [1] .seq [.idx (.var 0) (.int 2)] [] (.call 62 [.var 1])]])] [], .ite (.cmp .eq (.idx (.var 0) (.int 0)) (.str 13)) [.ret (.tup [.str 13, .bf .tuple [.lc (.name 2) [2] .seq [.idx (.var 0) (.int 1)] [] (.call 61 [.var 2])]])] [], .ret (.var 0)]⟩
def mirrored_slots : Def := ⟨1, 3, [.ret (.bf .tuple [.lc (.tup [.name 1, .name 2]) [1, 2] .seq [.var 0] [] (.tup [.call 1 [.var 1], .var 2])])]⟩
def mirror : Def := ⟨1, 9, [.expr (.call 27 [.var 0]), .set 1 (.lst []), .for (.tup [.name 3, .name 4]) .seq [.idx (.var 0) (.int 0)] [.set 5 (.ite (.cmp .eq (.var 3) (.str 4)) (.str 14) (.str 4)), .expr (.bm .append (.var 1) [.tup [.var 5, .bf .tuple [.lc (.name 8) [8] .seq [.var 4] [] (.call 63 [.var 8])]]])], .set 2 (.lc (.tup [.name 6, .name 7]) [6, 7] .seq [.idx (.var 0) (.int 1)] [] (.tup [.call 63 [.var 6], .call 61 [.var 7]])), .ret (.tup [.bf .tuple [.var 1], .bf .tuple [.var 2]])]⟩
def law10 : Def := ⟨1, 9, [.set 1 (.call 85 [.var 0]), .set 2 (.call 153 [.var 1]), .set 3 (.call 64 [.var 2]), .ite (.or (.isn true (.call 27 [.var 3])) (.cmp .ne (.bf .repr [.call 64 [.var 3]]) (.bf .repr [.var 2]))) [.ret (.bl false)] [], .setT (.tup [.name 7, .name 8]) (.call 166 [.var 2, .int 16]), .set 4 (.call 77 [.var 3]), .for (.name 5) .rng1 [.bf .len [.var 7]] [.ite (.or (.cmp .ne (.bf .repr [.var 4]) (.bf .repr [.call 61 [.idx (.var 7) (.var 5)]])) (.cmp .ne (.bf .repr [.call 61 [.var 4]]) (.bf .repr [.idx (.var 7) (.var 5)]))) [.ret (.bl false)] [], .ite (.cmp .lt (.var 5) (.bf .len [.var 8])) [.set 4 (.call 149 [.var 3, .var 4])] []], .for (.name 6) .seq [.tup [.int 0, .int 1, .int 3, .bf .len [.var 8]]] [.ite (.and (.cmp .le (.var 6) (.bf .len [.var 8])) (.cmp .ne (.bf .repr [.call 168 [.var 3, .var 6]]) (.bf .repr [.call 168 [.var 2, .var 6]]))) [.ret (.bl false)] []], .ret (.or (.cmp .ne (.idx (.var 4) (.int 0)) (.str 18)) (.isn false (.call 149 [.var 3, .var 4])))]⟩
def is_right : Def := ⟨3, 3, [.expr (.call 27 [.var 0]), .ret (.mth (.mk 1 [.mk 0 [.var 0]]) 22 [.var 1, .var 2, .int 1])]⟩
def is_right_term : Def := ⟨4, 4, [.expr (.call 27 [.var 0]), .ret (.mth (.mk 1 [.mk 0 [.var 0]]) 25 [.var 1, .var 2, .var 3, .int 1])]⟩
def _law_spoilt4 : Def := ⟨3, 4, [.set 3 (.call 132 [.var 0, .int 5]), .ite (.cmp .eq (.var 3) (.int 0)) [.ret (.tup [.str 12, .bf .len [.idx (.var 1) (.int 1)], .tup []])] [], .ite (.cmp .eq (.var 3) (.int 1)) [.ret (.tup [.str 12, .int 0, .tup [.tup [.str 20, .int 0]]])] [], .ite (.cmp .eq (.var 3) (.int 2)) [.ret (.tup [.str 18, .call 87 [.var 0, .lst [.int 10, .neg (.int 1), .bl true, .str 94, .non]]])] [], .ite (.cmp .eq (.idx (.var 2) (.int 0)) (.str 7)) [.ret (.call 87 [.var 0, .lst [.tup [.str 7, .bf .len [.idx (.var 1) (.int 0)], .idx (.var 2) (.int 2), .idx (.var 2) (.int 3)], .tup [.str 7, .idx (.var 2) (.int 1), .idx (.var 2) (.int 2)], .tup [.str 7, .idx (.var 2) (.int 1), .tup [.str 20, .int 0], .idx (.var 2) (.int 3)], .tup [.str 7, .idx (.var 2) (.int 1), .idx (.var 2) (.int 2), .tup [.str 6, .int 9, .tup []]], .tup [.str 7, .idx (.var 2) (.int 1), .idx (.var 2) (.int 2), .var 2]]])] [], .ite (.cmp .eq (.idx (.var 2) (.int 0)) (.str 12)) [.ret (.call 87 [.var 0, .lst [.tup [.str 12, .idx (.var 2) (.int 1), .bin .add (.idx (.var 2) (.int 2)) (.tup [.tup [.str 20, .int 0]])], .tup [.str 12, .idx (.var 2) (.int 1), .idx (.var 2) (.int 2), .tup []], .tup [.str 12, .idx (.var 2) (.int 1)]]])] [], .ret (.tup [.str 93, .int 1])]⟩
def law24 : Def := ⟨1, 9, [.set 1 (.call 85 [.var 0]), .set 2 (.call 153 [.var 1]), .ite (.isn true (.call 27 [.var 2])) [.ret (.bl false)] [], .for (.tup [.name 5, .name 6]) .seq [.idx (.var 2) (.int 1)] [.ite (.isb true true (.call 119 [.var 2, .var 5, .var 6])) [.ret (.bl false)] []], .set 3 (.call 77 [.var 2]), .for (.name 4) .rng1 [.int 20] [.ite (.or (.isb true true (.call 119 [.var 2, .tup [], .var 3])) (.isb true false (.call 119 [.var 2, .tup [], .call 334 [.var 1, .var 2, .var 3]]))) [.ret (.bl false)] [], .ite (.and (.cmp .eq (.idx (.var 3) (.int 0)) (.str 7)) (.or (.isb true true (.call 120 [.var 2, .tup [], .tup [.str 0, .idx (.var 3) (.int 1)], .idx (.var 3) (.int 2)])) (.isb true true (.call 120 [.var 2, .tup [], .tup [.str 1, .idx (.var 3) (.int 1)], .idx (.var 3) (.int 3)])))) [.ret (.bl false)] [], .ite (.and (.cmp .eq (.idx (.var 3) (.int 0)) (.str 12)) (.cmp .isin (.bl false) (.lc (.name 8) [8] .rng1 [.bf .len [.idx (.var 3) (.int 2)]] [] (.call 120 [.var 2, .tup [], .idx (.idx (.idx (.idx (.var 2) (.int 1)) (.idx (.var 3) (.int 1))) (.int 0)) (.var 8), .idx (.idx (.var 3) (.int 2)) (.var 8)])))) [.ret (.bl false)] [], .set 7 (.call 163 [.var 2, .var 3]), .ite (.or (.isn false (.var 7)) (.or (.not (.call 165 [.idx (.var 7) (.int 1)])) (.cmp .gt (.call 96 [.idx (.var 7) (.int 1)]) (.int 40)))) [.brk] [], .set 3 (.call 149 [.var 2, .var 3])], .ret (.bl true)]⟩
def Plainer___init__ : Def := ⟨2, 2, [.setF (.var 0) 15 (.var 1)]⟩
def Plainer_statement : Def := ⟨3, 7, [.set 3 (.call 69 [.fld (.var 0) 15, .var 1, .var 2]), .set 4 (.lst []), .whl (.isn true (.var 3)) [.setT (.tup [.name 5, .name 6, .name 1]) (.var 3), .expr (.bm .append (.var 4) [.tup [.var 5, .mth (.var 0) 25 [.idx (.var 5) (.int 1), .var 6, .var 2]]]), .aug 2 .add (.int 1), .set 3 (.call 69 [.fld (.var 0) 15, .var 1, .var 2])], .set 1 (.mth (.var 0) 41 [.var 1, .var 2]), .for (.tup [.name 5, .name 6]) .seq [.rev (.var 4)] [.set 1 (.call 70 [.var 5, .var 6, .var 1])], .ret (.var 1)]⟩
def Plainer_inside : Def := ⟨3, 3, [.ite (.cmp .eq (.idx (.var 1) (.int 0)) (.str 7)) [.ret (.tup [.str 7, .idx (.var 1) (.int 1), .mth (.var 0) 25 [.idx (.var 1) (.int 1), .idx (.var 1) (.int 2), .var 2], .mth (.var 0) 25 [.idx (.var 1) (.int 1), .idx (.var 1) (.int 3), .var 2]])] [], .ite (.cmp .eq (.idx (.var 1) (.int 0)) (.str 12)) [.ret (.tup [.str 12, .idx (.var 1) (.int 1), .mth (.var 0) 19 [.mth (.fld (.var 0) 15) 21 [.idx (.var 1) (.int 1)], .idx (.var 1) (.int 2), .var 2]])] [], .ret (.var 1)]⟩
def Plainer_terms : Def := ⟨4, 6, [.ret (.bf .tuple [.lc (.tup [.name 4, .name 5]) [4, 5] .zip [.var 1, .var 2] [] (.mth (.var 0) 25 [.idx (.var 4) (.int 1), .var 5, .var 3])])]⟩
def Plainer_term : Def := ⟨4, 8, [.ite (.cmp .eq (.idx (.var 2) (.int 0)) (.str 5)) [.ret (.tup [.str 5, .mth (.var 0) 22 [.idx (.var 2) (.int 1), .bin .add (.var 3) (.int 1)]])] [], .set 4 (.mth (.fld (.var 0) 15) 11 [.var 1]), .ite (.cmp .eq (.idx (.var 2) (.int 0)) (.str 6)) [.ret (.tup [.str 6, .idx (.var 2) (.int 1), .mth (.var 0) 19 [.idx (.var 4) (.idx (.var 2) (.int 1)), .idx (.var 2) (.int 2), .var 3]])] [], .ite (.cmp .eq (.idx (.var 2) (.int 0)) (.str 13)) [.set 5 (.lst []), .for (.tup [.name 6, .name 7]) .zip [.var 4, .idx (.var 2) (.int 1)] [.expr (.bm .append (.var 5) [.mth (.var 0) 22 [.var 7, .bin .add (.var 3) (.bf .len [.var 6])]])], .ret (.tup [.str 13, .bf .tuple [.var 5]])] [], .ret (.var 2)]⟩
def plain_form : Def := ⟨1, 7, [.expr (.call 27 [.var 0]), .set 1 (.mk 0 [.var 0]), .set 2 (.mk 6 [.var 1]), .set 3 (.lst []), .for (.tup [.name 4, .name 5]) .seq [.fld (.var 1) 3] [.set 6 (.mth (.var 2) 22 [.var 5, .bf .len [.var 4]]), .ite (.call 14 [.var 6]) [.never] [], .expr (.bm .append (.var 3) [.tup [.var 4, .var 6]])], .ret (.tup [.fld (.var 1) 2, .bf .tuple [.var 3]])]⟩
def _law_statements2 : Def := ⟨2, 6, [.par 3 4 (.lst [.idx (.idx (.idx (.var 0) (.int 1)) (.int 0)) (.int 1)]) (.lst []), .for (.name 2) .rng1 [.var 1] [.set 5 (.call 163 [.var 0, .idx (.var 3) (.var 2)]), .ite (.or (.isn false (.var 5)) (.or (.not (.call 165 [.idx (.var 5) (.int 1)])) (.cmp .gt (.call 95 [.idx (.var 5) (.int 1)]) (.int 400)))) [.brk] [], .expr (.bm .append (.var 4) [.idx (.var 5) (.int 0)]), .expr (.bm .append (.var 3) [.idx (.var 5) (.int 1)])], .ret (.tup [.var 3, .var 4])]⟩
def _law_plain_statement : Def := ⟨3, 6, [.set 3 (.call 161 [.var 0, .var 1, .var 2]), .ite (.isn true (.var 3)) [.ret (.call 197 [.var 0, .var 3, .var 2])] [], .ite (.cmp .eq (.idx (.var 1) (.int 0)) (.str 18)) [.ret (.var 1)] [], .ite (.cmp .eq (.idx (.var 1) (.int 0)) (.str 12)) [.set 4 (.idx (.idx (.idx (.var 0) (.int 1)) (.idx (.var 1) (.int 1))) (.int 0)), .ret (.tup [.str 12, .idx (.var 1) (.int 1), .bf .tuple [.lc (.name 5) [5] .rng1 [.bf .len [.var 4]] [] (.call 198 [.var 0, .idx (.idx (.var 4) (.var 5)) (.int 1), .idx (.idx (.var 1) (.int 2)) (.var 5), .var 2])]])] [], .ret (.tup [.str 7, .idx (.var 1) (.int 1), .call 198 [.var 0, .idx (.var 1) (.int 1), .idx (.var 1) (.int 2), .var 2], .call 198 [.var 0, .idx (.var 1) (.int 1), .idx (.var 1) (.int 3), .var 2]])]⟩
def _law_plain_term : Def := ⟨4, 8, [.ite (.cmp .eq (.idx (.var 2) (.int 0)) (.str 20)) [.ret (.var 2)] [], .ite (.cmp .eq (.idx (.var 2) (.int 0)) (.str 5)) [.ret (.tup [.str 5, .call 197 [.var 0, .idx (.var 2) (.int 1), .bin .add (.var 3) (.int 1)]])] [], .set 4 (.idx (.idx (.idx (.var 0) (.int 0)) (.var 1)) (.int 1)), .ite (.cmp .eq (.idx (.var 2) (.int 0)) (.str 13)) [.ret (.tup [.str 13, .bf .tuple [.lc (.name 7) [7] .rng1 [.bf .len [.var 4]] [] (.call 197 [.var 0, .idx (.idx (.var 2) (.int 1)) (.var 7), .bin .add (.var 3) (.bf .len [.idx (.var 4) (.var 7)])])]])] [], .set 5 (.idx (.var 4) (.idx (.var 2) (.int 1))), .ret (.tup [.str 6, .idx (.var 2) (.int 1), .bf .tuple [.lc (.name 6) [6] .rng1 [.bf .len [.var 5]] [] (.call 198 [.var 0, .idx (.idx (.var 5) (.var 6)) (.int 1), .idx (.idx (.var 2) (.int 2)) (.var 6), .var 3])]])]⟩
def _law_plain_program : Def := ⟨1, 3, [.ret (.tup [.idx (.var 0) (.int 0), .bf .tuple [.lc (.tup [.name 1, .name 2]) [1, 2] .seq [.idx (.var 0) (.int 1)] [] (.tup [.var 1, .call 197 [.var 0, .var 2, .bf .len [.var 1]]])]])]⟩
def law8 : Def := ⟨1, 12, [.set 1 (.call 85 [.var 0]), .set 2 (.call 153 [.var 1]), .set 3 (.call 199 [.var 2]), .ite (.not (.call 164 [.var 3])) [.ret (.bl true)] [], .set 4 (.call 76 [.var 2]), .setT (.tup [.name 9, .name 10]) (.call 204 [.var 2, .int 40]), .set 5 (.lc (.name 11) [11] .seq [.var 9] [] (.call 197 [.var 2, .var 11, .int 0])), .ite (.cmp .isin (.bl false) (.lc (.name 11) [11] .seq [.var 5] [] (.call 165 [.var 11]))) [.ret (.bl true)] [], .set 6 (.idx (.var 9) (.bin .sub (.bf .len [.var 9]) (.int 1))), .ite (.cmp .eq (.idx (.var 6) (.int 0)) (.str 18)) [.ite (.cmp .ne (.bf .repr [.call 168 [.var 2, .int 300]]) (.bf .repr [.tup [.idx (.var 6) (.int 1), .bf .len [.var 10]]])) [.ret (.bl false)] [], .ite (.cmp .ne (.bf .repr [.call 168 [.var 4, .int 300]]) (.bf .repr [.tup [.idx (.var 6) (.int 1), .bin .sub (.bf .len [.var 10]) (.bm .count (.var 10) [.bl true])]])) [.ret (.bl false)] []] [], .set 7 (.idx (.idx (.idx (.var 4) (.int 1)) (.int 0)) (.int 1)), .for (.name 8) .rng1 [.bf .len [.var 10]] [.ite (.not (.idx (.var 10) (.var 8))) [.set 7 (.call 149 [.var 4, .var 7])] [], .ite (.or (.cmp .ne (.bf .repr [.var 7]) (.bf .repr [.idx (.var 5) (.bin .add (.var 8) (.int 1))])) (.isn true (.call 161 [.var 4, .var 7, .int 0]))) [.ret (.bl false)] []], .ret (.bl true)]⟩
end Lib

end
section
set_option linter.all false
set_option maxRecDepth 100000
set_option maxHeartbeats 0
/-! K08: the text of the law is the one in the evaluator's syntax (printed by gen.py). -/
namespace K08
open PySem PySem.Spec Ev
def bk : Book where
  tab := Lib.voc
  cls := [(0, "World"), (1, "Judge"), (2, "Placing"), (6, "Plainer")]
  fld := [(0, 2), (0, 3), (1, 15), (1, 16), (1, 17), (2, 15), (2, 26), (2, 19), (2, 27), (2, 28), (6, 15)]
  mth := [(0, 9, 3), (0, 11, 4), (0, 21, 5), (0, 42, 6), (0, 10, 7), (0, 8, 8), (0, 40, 9), (0, 7, 10), (1, 24, 20), (1, 23, 21), (1, 22, 22), (1, 19, 23), (1, 25, 24), (2, 29, 33), (2, 22, 34), (2, 31, 35), (2, 25, 36), (6, 22, 72), (6, 41, 73), (6, 19, 74), (6, 25, 75)]
  ini := [(0, 2), (1, 19), (2, 32), (6, 71)]
  fns := ([(1, "other"), (11, "measure"), (12, "parts_of"), (13, "inner_statements"), (14, "is_too_much"), (15, "is_within"), (16, "are_slots"), (17, "is_declaration"), (18, "are_declarations"), (25, "are_headed"), (26, "is_program"), (27, "check_program"), (37, "put"), (65, "first_unplain"), (66, "with_arg"), (67, "unplain_in"), (68, "without_arg"), (69, "lifted"), (70, "cut_of"), (143, "bound"), (144, "handed"), (145, "matched_up"), (146, "called"), (76, "plain_form"), (147, "after")] : List (Nat × Str)) ++ ([(148, "bounded"), (149, "step"), (168, "run"), (85, "_law_box"), (132, "_law_take"), (87, "_law_pick"), (150, "_law_declared"), (151, "_law_statement"), (152, "_law_term"), (153, "_law_program"), (135, "_law_making"), (154, "_law_lift"), (155, "_law_put"), (156, "_law_put_term"), (157, "_law_is_plain"), (158, "_law_are_plain"), (159, "_law_pull"), (160, "_law_sides"), (161, "_law_third"), (162, "_law_reduced"), (163, "_law_stepped"), (95, "_law_size"), (96, "_law_deep"), (164, "_law_fits"), (165, "_law_small")] : List (Nat × Str)) ++ ([(204, "_law_statements"), (197, "_law_plain_statement"), (198, "_law_plain_term"), (199, "_law_plain_program"), (205, "law")] : List (Nat × Str))
  cst := [(0, "MOST_SIZE_world", 20000), (2, "MOST_LEVELS_world", 100), (8, "MOST_SLOTS", 3), (6, "MOST_SHAPES", 4), (4, "MOST_TYPES", 5), (18, "DEEPEST", 110), (16, "MOST_STOP", 9), (10, "MOST_DEFINITIONS", 6), (14, "MOST_SIZE_check", 400), (12, "MOST_LEVELS_check", 30)]
  fvs := [(123, 61, 143), (125, 62, 144), (127, 63, 145)]
  defs := ([(1, Lib.other), (2, Lib.World___init__), (3, Lib.World_making), (4, Lib.World_shapes), (5, Lib.World_params), (6, Lib.World_body), (7, Lib.World_is_plain), (8, Lib.World_are_plain), (9, Lib.World_sides), (10, Lib.World_cut), (11, Lib.measure), (12, Lib.parts_of), (13, Lib.inner_statements), (14, Lib.is_too_much), (15, Lib.is_within), (16, Lib.are_slots), (17, Lib.is_declaration), (18, Lib.are_declarations), (19, Lib.Judge___init__), (20, Lib.Judge_has_form), (21, Lib.Judge_met), (22, Lib.Judge_statement), (23, Lib.Judge_terms), (24, Lib.Judge_term), (25, Lib.are_headed)] : List (Nat × Def)) ++ ([(26, Lib.is_program), (27, Lib.check_program), (32, Lib.Placing___init__), (33, Lib.Placing_variable), (34, Lib.Placing_statement), (35, Lib.Placing_all_terms), (36, Lib.Placing_term), (37, Lib.put), (65, Lib.first_unplain), (66, Lib.with_arg), (67, Lib.unplain_in), (68, Lib.without_arg), (69, Lib.lifted), (70, Lib.cut_of), (143, Lib.bound), (144, Lib.handed), (145, Lib.matched_up), (146, Lib.called), (71, Lib.Plainer___init__), (72, Lib.Plainer_statement), (73, Lib.Plainer_inside), (74, Lib.Plainer_terms), (75, Lib.Plainer_term), (76, Lib.plain_form), (147, Lib.after)] : List (Nat × Def)) ++ ([(148, Lib.bounded), (149, Lib.step), (168, Lib.run), (85, Lib._law_box), (132, Lib._law_take2), (87, Lib._law_pick), (150, Lib._law_declared), (151, Lib._law_statement2), (152, Lib._law_term3), (153, Lib._law_program2), (135, Lib._law_making), (154, Lib._law_lift), (155, Lib._law_put), (156, Lib._law_put_term), (157, Lib._law_is_plain2), (158, Lib._law_are_plain2), (159, Lib._law_pull), (160, Lib._law_sides), (161, Lib._law_third), (162, Lib._law_reduced), (163, Lib._law_stepped), (95, Lib._law_size), (96, Lib._law_deep), (164, Lib._law_fits2), (165, Lib._law_small2)] : List (Nat × Def)) ++ ([(204, Lib._law_statements2), (197, Lib._law_plain_statement), (198, Lib._law_plain_term), (199, Lib._law_plain_program), (205, Lib.law8)] : List (Nat × Def))
abbrev pg : Program := PySem.Challenge.pw_antiphon_k08_whole_runs_of_plain_forms
def pys : List He.DefD := ([mkF pg 7 "other", mkM pg 8 0 "World" "__init__" "World.__init__", mkM pg 8 1 "World" "making" "World.making", mkM pg 8 2 "World" "shapes" "World.shapes", mkM pg 8 3 "World" "params" "World.params", mkM pg 8 4 "World" "body" "World.body", mkM pg 8 5 "World" "is_plain" "World.is_plain", mkM pg 8 6 "World" "are_plain" "World.are_plain", mkM pg 8 7 "World" "sides" "World.sides", mkM pg 8 8 "World" "cut" "World.cut", mkF pg 9 "measure", mkF pg 10 "parts_of", mkF pg 11 "inner_statements", mkF pg 12 "is_too_much", mkF pg 22 "is_within", mkF pg 23 "are_slots", mkF pg 24 "is_declaration", mkF pg 25 "are_declarations", mkM pg 26 0 "Judge" "__init__" "Judge.__init__", mkM pg 26 1 "Judge" "has_form" "Judge.has_form", mkM pg 26 2 "Judge" "met" "Judge.met", mkM pg 26 3 "Judge" "statement" "Judge.statement", mkM pg 26 4 "Judge" "terms" "Judge.terms", mkM pg 26 5 "Judge" "term" "Judge.term", mkF pg 27 "are_headed"] : List He.DefD) ++ ([mkF pg 28 "is_program", mkF pg 29 "check_program", mkM pg 31 0 "Placing" "__init__" "Placing.__init__", mkM pg 31 1 "Placing" "variable" "Placing.variable", mkM pg 31 2 "Placing" "statement" "Placing.statement", mkM pg 31 3 "Placing" "all_terms" "Placing.all_terms", mkM pg 31 4 "Placing" "term" "Placing.term", mkF pg 32 "put", mkF pg 34 "first_unplain", mkF pg 35 "with_arg", mkF pg 36 "unplain_in", mkF pg 37 "without_arg", mkF pg 38 "lifted", mkF pg 39 "cut_of", mkF pg 40 "bound", mkF pg 41 "handed", mkF pg 42 "matched_up", mkF pg 43 "called", mkM pg 45 0 "Plainer" "__init__" "Plainer.__init__", mkM pg 45 1 "Plainer" "statement" "Plainer.statement", mkM pg 45 2 "Plainer" "inside" "Plainer.inside", mkM pg 45 3 "Plainer" "terms" "Plainer.terms", mkM pg 45 4 "Plainer" "term" "Plainer.term", mkF pg 46 "plain_form", mkF pg 48 "after"] : List He.DefD) ++ ([mkF pg 49 "bounded", mkF pg 50 "step", mkF pg 51 "run", mkF pg 53 "_law_box", mkF pg 54 "_law_take", mkF pg 55 "_law_pick", mkF pg 56 "_law_declared", mkF pg 57 "_law_statement", mkF pg 58 "_law_term", mkF pg 59 "_law_program", mkF pg 60 "_law_making", mkF pg 61 "_law_lift", mkF pg 62 "_law_put", mkF pg 63 "_law_put_term", mkF pg 64 "_law_is_plain", mkF pg 65 "_law_are_plain", mkF pg 66 "_law_pull", mkF pg 67 "_law_sides", mkF pg 68 "_law_third", mkF pg 69 "_law_reduced", mkF pg 70 "_law_stepped", mkF pg 71 "_law_size", mkF pg 72 "_law_deep", mkF pg 73 "_law_fits", mkF pg 74 "_law_small"] : List He.DefD) ++ ([mkF pg 75 "_law_statements", mkF pg 76 "_law_plain_statement", mkF pg 77 "_law_plain_term", mkF pg 78 "_law_plain_program", mkF pg 79 "law"] : List He.DefD)
def nms : List (List Str × List Str) := ([(["side"], ["side"]), (["self", "program"], ["self", "program"]), (["self", "t"], ["self", "t"]), (["self", "t"], ["self", "t"]), (["self", "j"], ["self", "j"]), (["self", "j"], ["self", "j"]), (["self", "slot", "term"], ["self", "slot", "term", "side", "t"]), (["self", "slots", "terms"], ["self", "slots", "terms", "slot", "term"]), (["self", "statement"], ["self", "statement", "_", "t", "p", "c"]), (["self", "t", "made", "matched"], ["self", "t", "made", "matched"]), (["trees"], ["trees", "many", "level", "tree", "inner"]), (["tree"], ["tree", "word"]), (["term"], ["term"]), (["tree"], ["tree", "many", "level"]), (["x", "low", "high"], ["x", "low", "high"]), (["x", "types"], ["x", "types", "slot"]), (["x", "types"], ["x", "types", "shape"]), (["x"], ["x", "declaration"]), (["self", "world"], ["self", "world"]), (["self", "x", "words"], ["self", "x", "words"]), (["self", "level"], ["self", "level"]), (["self", "context", "x", "level"], ["self", "context", "x", "level", "_", "t", "p", "c"]), (["self", "context", "slots", "x", "level"], ["self", "context", "slots", "x", "level", "slot", "term"]), (["self", "context", "slot", "x", "level"], ["self", "context", "slot", "x", "level", "shapes", "side", "t", "shape", "branch"]), (["x", "types"], ["x", "types", "definition"])] : List (List Str × List Str)) ++ ([(["x"], ["x", "judge", "params", "body"]), (["program"], ["program"]), (["self", "world", "first", "terms", "length"], ["self", "world", "first", "terms", "length"]), (["self", "t", "k", "inner"], ["self", "t", "k", "inner", "term"]), (["self", "x", "inner"], ["self", "x", "inner"]), (["self", "slots", "terms", "inner"], ["self", "slots", "terms", "inner", "slot", "term"]), (["self", "t", "x", "inner"], ["self", "t", "x", "inner", "shapes", "branches", "shape", "branch"]), (["world", "statement", "first", "terms", "length"], ["world", "statement", "first", "terms", "length"]), (["world", "slots", "terms"], ["world", "slots", "terms", "at", "slot", "term", "found"]), (["terms", "path", "term"], ["terms", "path", "term", "at", "inner"]), (["world", "statement"], ["world", "statement", "made"]), (["world", "statement", "path", "length"], ["world", "statement", "path", "length", "wide", "fresh", "made", "matched"]), (["world", "statement", "length"], ["world", "statement", "length", "found", "path", "slot", "term"]), (["slot", "term", "statement"], ["slot", "term", "statement"]), (["world", "statement", "length"], ["world", "statement", "length", "made", "matched"]), (["world", "statement", "length"], ["world", "statement", "length", "made", "matched"]), (["world", "statement", "length"], ["world", "statement", "length", "made", "matched"]), (["world", "statement", "length"], ["world", "statement", "length", "_", "j", "terms"]), (["self", "world"], ["self", "world"]), (["self", "x", "length"], ["self", "x", "length", "found", "around", "slot", "term"]), (["self", "x", "length"], ["self", "x", "length"]), (["self", "slots", "terms", "length"], ["self", "slots", "terms", "length", "slot", "term"]), (["self", "t", "x", "length"], ["self", "t", "x", "length", "shapes", "branches", "shape", "branch"]), (["program"], ["program", "world", "plainer", "definitions", "params", "body", "found"]), (["world", "statement"], ["world", "statement", "found", "rule", "slot", "term", "rest"])] : List (List Str × List Str)) ++ ([(["statement"], ["statement"]), (["program", "statement"], ["program", "statement"]), (["program", "most"], ["program", "most", "world", "statement", "length"]), (["_law_script"], ["_law_script", "_law_x"]), (["_law_box_here", "_law_m"], ["_law_box_here", "_law_m", "_law_at", "_law_cell", "_law_told"]), (["_law_box_here", "_law_menu"], ["_law_box_here", "_law_menu"]), (["_law_box_here"], ["_law_box_here", "_law_many", "_law_found", "_law_t", "_law_shapes", "_law_h", "_law_k"]), (["_law_box_here", "_law_head", "_law_context", "_law_budget"], ["_law_box_here", "_law_head", "_law_context", "_law_budget", "_law_sort", "_law_t", "_law_j", "_law_share", "_law_slot"]), (["_law_box_here", "_law_head", "_law_context", "_law_slot", "_law_budget"], ["_law_box_here", "_law_head", "_law_context", "_law_slot", "_law_budget", "_law_known", "_law_making_here", "_law_empty", "_law_h", "_law_share", "_law_sign", "_law_shapes", "_law_other", "_law_k", "_law_one", "_law_shape"]), (["_law_box_here"], ["_law_box_here", "_law_declared_here", "_law_params", "_law_j", "_law_head", "_law_budget", "_law_found", "_law_slots", "_law_k"]), (["_law_program_here", "_law_t"], ["_law_program_here", "_law_t"]), (["_law_x", "_law_base", "_law_by"], ["_law_x", "_law_base", "_law_by", "_law_word", "_law_s", "_law_arg"]), (["_law_program_here", "_law_s", "_law_size_here", "_law_keep", "_law_args", "_law_base"], ["_law_program_here", "_law_s", "_law_size_here", "_law_keep", "_law_args", "_law_base", "_law_slots", "_law_k"]), (["_law_program_here", "_law_t", "_law_x", "_law_size_here", "_law_keep", "_law_args", "_law_base"], ["_law_program_here", "_law_t", "_law_x", "_law_size_here", "_law_keep", "_law_args", "_law_base", "_law_shapes", "_law_slots", "_law_k", "_law_h"]), (["_law_program_here", "_law_slot", "_law_x"], ["_law_program_here", "_law_slot", "_law_x", "_law_slots", "_law_k"]), (["_law_program_here", "_law_slots", "_law_args"], ["_law_program_here", "_law_slots", "_law_args", "_law_k"]), (["_law_program_here", "_law_slots", "_law_args", "_law_n"], ["_law_program_here", "_law_slots", "_law_args", "_law_n", "_law_found", "_law_out", "_law_k", "_law_slot", "_law_term_here", "_law_inner"]), (["_law_program_here", "_law_s"], ["_law_program_here", "_law_s"]), (["_law_program_here", "_law_s", "_law_n"], ["_law_program_here", "_law_s", "_law_n", "_law_slot", "_law_term_here", "_law_more", "_law_old", "_law_slots", "_law_args", "_law_m", "_law_w", "_law_made", "_law_other"]), (["_law_program_here", "_law_s", "_law_n"], ["_law_program_here", "_law_s", "_law_n", "_law_m", "_law_w", "_law_slots", "_law_body"]), (["_law_program_here", "_law_s"], ["_law_program_here", "_law_s", "_law_third_here"]), (["_law_x"], ["_law_x", "_law_word", "_law_arg", "_law_s"]), (["_law_x"], ["_law_x", "_law_word", "_law_arg", "_law_s"]), (["_law_program_here"], ["_law_program_here", "_law_bodies", "_law_slots", "_law_body"]), (["_law_s"], ["_law_s"])] : List (List Str × List Str)) ++ ([(["_law_program_here", "_law_most"], ["_law_program_here", "_law_most", "_law_turn", "_law_found", "_law_kinds", "_law_told"]), (["_law_program_here", "_law_s", "_law_n"], ["_law_program_here", "_law_s", "_law_n", "_law_third_here", "_law_slots", "_law_k"]), (["_law_program_here", "_law_t", "_law_x", "_law_n"], ["_law_program_here", "_law_t", "_law_x", "_law_n", "_law_shapes", "_law_slots", "_law_k", "_law_h"]), (["_law_program_here"], ["_law_program_here", "_law_slots", "_law_body"]), (["_law_script"], ["_law_script", "_law_box_here", "_law_program_here", "_law_due", "_law_told", "_law_forms", "_law_last", "_law_statement_here", "_law_k", "_law_found", "_law_kinds", "_law_s"])] : List (List Str × List Str))
theorem c0 : chkD bk (mkF pg 7 "other") (["side"], ["side"]) Lib.other = true := by decide +kernel
theorem a0 : BindsD (mkF pg 7 "other") ["side"] := ⟨fun _ _ _ _ _ _ us hl => match us, hl with | [_], _ => rfl⟩
theorem c1 : chkD bk (mkM pg 8 0 "World" "__init__" "World.__init__") (["self", "program"], ["self", "program"]) Lib.World___init__ = true := by decide +kernel
theorem a1 : BindsD (mkM pg 8 0 "World" "__init__" "World.__init__") ["self", "program"] := ⟨fun _ _ _ _ _ _ us hl => match us, hl with | [_, _], _ => rfl⟩
theorem c2 : chkD bk (mkM pg 8 1 "World" "making" "World.making") (["self", "t"], ["self", "t"]) Lib.World_making = true := by decide +kernel
theorem a2 : BindsD (mkM pg 8 1 "World" "making" "World.making") ["self", "t"] := ⟨fun _ _ _ _ _ _ us hl => match us, hl with | [_, _], _ => rfl⟩
theorem c3 : chkD bk (mkM pg 8 2 "World" "shapes" "World.shapes") (["self", "t"], ["self", "t"]) Lib.World_shapes = true := by decide +kernel
theorem a3 : BindsD (mkM pg 8 2 "World" "shapes" "World.shapes") ["self", "t"] := ⟨fun _ _ _ _ _ _ us hl => match us, hl with | [_, _], _ => rfl⟩
theorem c4 : chkD bk (mkM pg 8 3 "World" "params" "World.params") (["self", "j"], ["self", "j"]) Lib.World_params = true := by decide +kernel
theorem a4 : BindsD (mkM pg 8 3 "World" "params" "World.params") ["self", "j"] := ⟨fun _ _ _ _ _ _ us hl => match us, hl with | [_, _], _ => rfl⟩
theorem c5 : chkD bk (mkM pg 8 4 "World" "body" "World.body") (["self", "j"], ["self", "j"]) Lib.World_body = true := by decide +kernel
theorem a5 : BindsD (mkM pg 8 4 "World" "body" "World.body") ["self", "j"] := ⟨fun _ _ _ _ _ _ us hl => match us, hl with | [_, _], _ => rfl⟩
theorem c6 : chkD bk (mkM pg 8 5 "World" "is_plain" "World.is_plain") (["self", "slot", "term"], ["self", "slot", "term", "side", "t"]) Lib.World_is_plain = true := by decide +kernel
theorem a6 : BindsD (mkM pg 8 5 "World" "is_plain" "World.is_plain") ["self", "slot", "term"] := ⟨fun _ _ _ _ _ _ us hl => match us, hl with | [_, _, _], _ => rfl⟩
theorem c7 : chkD bk (mkM pg 8 6 "World" "are_plain" "World.are_plain") (["self", "slots", "terms"], ["self", "slots", "terms", "slot", "term"]) Lib.World_are_plain = true := by decide +kernel
theorem a7 : BindsD (mkM pg 8 6 "World" "are_plain" "World.are_plain") ["self", "slots", "terms"] := ⟨fun _ _ _ _ _ _ us hl => match us, hl with | [_, _, _], _ => rfl⟩
theorem c8 : chkD bk (mkM pg 8 7 "World" "sides" "World.sides") (["self", "statement"], ["self", "statement", "_", "t", "p", "c"]) Lib.World_sides = true := by decide +kernel
theorem a8 : BindsD (mkM pg 8 7 "World" "sides" "World.sides") ["self", "statement"] := ⟨fun _ _ _ _ _ _ us hl => match us, hl with | [_, _], _ => rfl⟩
theorem c9 : chkD bk (mkM pg 8 8 "World" "cut" "World.cut") (["self", "t", "made", "matched"], ["self", "t", "made", "matched"]) Lib.World_cut = true := by decide +kernel
theorem a9 : BindsD (mkM pg 8 8 "World" "cut" "World.cut") ["self", "t", "made", "matched"] := ⟨fun _ _ _ _ _ _ us hl => match us, hl with | [_, _, _, _], _ => rfl⟩
theorem c10 : chkD bk (mkF pg 9 "measure") (["trees"], ["trees", "many", "level", "tree", "inner"]) Lib.measure = true := by decide +kernel
theorem a10 : BindsD (mkF pg 9 "measure") ["trees"] := ⟨fun _ _ _ _ _ _ us hl => match us, hl with | [_], _ => rfl⟩
theorem c11 : chkD bk (mkF pg 10 "parts_of") (["tree"], ["tree", "word"]) Lib.parts_of = true := by decide +kernel
theorem a11 : BindsD (mkF pg 10 "parts_of") ["tree"] := ⟨fun _ _ _ _ _ _ us hl => match us, hl with | [_], _ => rfl⟩
theorem c12 : chkD bk (mkF pg 11 "inner_statements") (["term"], ["term"]) Lib.inner_statements = true := by decide +kernel
theorem a12 : BindsD (mkF pg 11 "inner_statements") ["term"] := ⟨fun _ _ _ _ _ _ us hl => match us, hl with | [_], _ => rfl⟩
theorem c13 : chkD bk (mkF pg 12 "is_too_much") (["tree"], ["tree", "many", "level"]) Lib.is_too_much = true := by decide +kernel
theorem a13 : BindsD (mkF pg 12 "is_too_much") ["tree"] := ⟨fun _ _ _ _ _ _ us hl => match us, hl with | [_], _ => rfl⟩
theorem c14 : chkD bk (mkF pg 22 "is_within") (["x", "low", "high"], ["x", "low", "high"]) Lib.is_within = true := by decide +kernel
theorem a14 : BindsD (mkF pg 22 "is_within") ["x", "low", "high"] := ⟨fun _ _ _ _ _ _ us hl => match us, hl with | [_, _, _], _ => rfl⟩
theorem c15 : chkD bk (mkF pg 23 "are_slots") (["x", "types"], ["x", "types", "slot"]) Lib.are_slots = true := by decide +kernel
theorem a15 : BindsD (mkF pg 23 "are_slots") ["x", "types"] := ⟨fun _ _ _ _ _ _ us hl => match us, hl with | [_, _], _ => rfl⟩
theorem c16 : chkD bk (mkF pg 24 "is_declaration") (["x", "types"], ["x", "types", "shape"]) Lib.is_declaration = true := by decide +kernel
theorem a16 : BindsD (mkF pg 24 "is_declaration") ["x", "types"] := ⟨fun _ _ _ _ _ _ us hl => match us, hl with | [_, _], _ => rfl⟩
theorem c17 : chkD bk (mkF pg 25 "are_declarations") (["x"], ["x", "declaration"]) Lib.are_declarations = true := by decide +kernel
theorem a17 : BindsD (mkF pg 25 "are_declarations") ["x"] := ⟨fun _ _ _ _ _ _ us hl => match us, hl with | [_], _ => rfl⟩
theorem c18 : chkD bk (mkM pg 26 0 "Judge" "__init__" "Judge.__init__") (["self", "world"], ["self", "world"]) Lib.Judge___init__ = true := by decide +kernel
theorem a18 : BindsD (mkM pg 26 0 "Judge" "__init__" "Judge.__init__") ["self", "world"] := ⟨fun _ _ _ _ _ _ us hl => match us, hl with | [_, _], _ => rfl⟩
theorem c19 : chkD bk (mkM pg 26 1 "Judge" "has_form" "Judge.has_form") (["self", "x", "words"], ["self", "x", "words"]) Lib.Judge_has_form = true := by decide +kernel
theorem a19 : BindsD (mkM pg 26 1 "Judge" "has_form" "Judge.has_form") ["self", "x", "words"] := ⟨fun _ _ _ _ _ _ us hl => match us, hl with | [_, _, _], _ => rfl⟩
theorem c20 : chkD bk (mkM pg 26 2 "Judge" "met" "Judge.met") (["self", "level"], ["self", "level"]) Lib.Judge_met = true := by decide +kernel
theorem a20 : BindsD (mkM pg 26 2 "Judge" "met" "Judge.met") ["self", "level"] := ⟨fun _ _ _ _ _ _ us hl => match us, hl with | [_, _], _ => rfl⟩
theorem c21 : chkD bk (mkM pg 26 3 "Judge" "statement" "Judge.statement") (["self", "context", "x", "level"], ["self", "context", "x", "level", "_", "t", "p", "c"]) Lib.Judge_statement = true := by decide +kernel
theorem a21 : BindsD (mkM pg 26 3 "Judge" "statement" "Judge.statement") ["self", "context", "x", "level"] := ⟨fun _ _ _ _ _ _ us hl => match us, hl with | [_, _, _, _], _ => rfl⟩
theorem c22 : chkD bk (mkM pg 26 4 "Judge" "terms" "Judge.terms") (["self", "context", "slots", "x", "level"], ["self", "context", "slots", "x", "level", "slot", "term"]) Lib.Judge_terms = true := by decide +kernel
theorem a22 : BindsD (mkM pg 26 4 "Judge" "terms" "Judge.terms") ["self", "context", "slots", "x", "level"] := ⟨fun _ _ _ _ _ _ us hl => match us, hl with | [_, _, _, _, _], _ => rfl⟩
theorem c23 : chkD bk (mkM pg 26 5 "Judge" "term" "Judge.term") (["self", "context", "slot", "x", "level"], ["self", "context", "slot", "x", "level", "shapes", "side", "t", "shape", "branch"]) Lib.Judge_term = true := by decide +kernel
theorem a23 : BindsD (mkM pg 26 5 "Judge" "term" "Judge.term") ["self", "context", "slot", "x", "level"] := ⟨fun _ _ _ _ _ _ us hl => match us, hl with | [_, _, _, _, _], _ => rfl⟩
theorem c24 : chkD bk (mkF pg 27 "are_headed") (["x", "types"], ["x", "types", "definition"]) Lib.are_headed = true := by decide +kernel
theorem a24 : BindsD (mkF pg 27 "are_headed") ["x", "types"] := ⟨fun _ _ _ _ _ _ us hl => match us, hl with | [_, _], _ => rfl⟩
theorem c25 : chkD bk (mkF pg 28 "is_program") (["x"], ["x", "judge", "params", "body"]) Lib.is_program = true := by decide +kernel
theorem a25 : BindsD (mkF pg 28 "is_program") ["x"] := ⟨fun _ _ _ _ _ _ us hl => match us, hl with | [_], _ => rfl⟩
theorem c26 : chkD bk (mkF pg 29 "check_program") (["program"], ["program"]) Lib.check_program = true := by decide +kernel
theorem a26 : BindsD (mkF pg 29 "check_program") ["program"] := ⟨fun _ _ _ _ _ _ us hl => match us, hl with | [_], _ => rfl⟩
theorem c27 : chkD bk (mkM pg 31 0 "Placing" "__init__" "Placing.__init__") (["self", "world", "first", "terms", "length"], ["self", "world", "first", "terms", "length"]) Lib.Placing___init__ = true := by decide +kernel
theorem a27 : BindsD (mkM pg 31 0 "Placing" "__init__" "Placing.__init__") ["self", "world", "first", "terms", "length"] := ⟨fun _ _ _ _ _ _ us hl => match us, hl with | [_, _, _, _, _], _ => rfl⟩
theorem c28 : chkD bk (mkM pg 31 1 "Placing" "variable" "Placing.variable") (["self", "t", "k", "inner"], ["self", "t", "k", "inner", "term"]) Lib.Placing_variable = true := by decide +kernel
theorem a28 : BindsD (mkM pg 31 1 "Placing" "variable" "Placing.variable") ["self", "t", "k", "inner"] := ⟨fun _ _ _ _ _ _ us hl => match us, hl with | [_, _, _, _], _ => rfl⟩
theorem c29 : chkD bk (mkM pg 31 2 "Placing" "statement" "Placing.statement") (["self", "x", "inner"], ["self", "x", "inner"]) Lib.Placing_statement = true := by decide +kernel
theorem a29 : BindsD (mkM pg 31 2 "Placing" "statement" "Placing.statement") ["self", "x", "inner"] := ⟨fun _ _ _ _ _ _ us hl => match us, hl with | [_, _, _], _ => rfl⟩
theorem c30 : chkD bk (mkM pg 31 3 "Placing" "all_terms" "Placing.all_terms") (["self", "slots", "terms", "inner"], ["self", "slots", "terms", "inner", "slot", "term"]) Lib.Placing_all_terms = true := by decide +kernel
theorem a30 : BindsD (mkM pg 31 3 "Placing" "all_terms" "Placing.all_terms") ["self", "slots", "terms", "inner"] := ⟨fun _ _ _ _ _ _ us hl => match us, hl with | [_, _, _, _], _ => rfl⟩
theorem c31 : chkD bk (mkM pg 31 4 "Placing" "term" "Placing.term") (["self", "t", "x", "inner"], ["self", "t", "x", "inner", "shapes", "branches", "shape", "branch"]) Lib.Placing_term = true := by decide +kernel
theorem a31 : BindsD (mkM pg 31 4 "Placing" "term" "Placing.term") ["self", "t", "x", "inner"] := ⟨fun _ _ _ _ _ _ us hl => match us, hl with | [_, _, _, _], _ => rfl⟩
theorem c32 : chkD bk (mkF pg 32 "put") (["world", "statement", "first", "terms", "length"], ["world", "statement", "first", "terms", "length"]) Lib.put = true := by decide +kernel
theorem a32 : BindsD (mkF pg 32 "put") ["world", "statement", "first", "terms", "length"] := ⟨fun _ _ _ _ _ _ us hl => match us, hl with | [_, _, _, _, _], _ => rfl⟩
theorem c33 : chkD bk (mkF pg 34 "first_unplain") (["world", "slots", "terms"], ["world", "slots", "terms", "at", "slot", "term", "found"]) Lib.first_unplain = true := by decide +kernel
theorem a33 : BindsD (mkF pg 34 "first_unplain") ["world", "slots", "terms"] := ⟨fun _ _ _ _ _ _ us hl => match us, hl with | [_, _, _], _ => rfl⟩
theorem c34 : chkD bk (mkF pg 35 "with_arg") (["terms", "path", "term"], ["terms", "path", "term", "at", "inner"]) Lib.with_arg = true := by decide +kernel
theorem a34 : BindsD (mkF pg 35 "with_arg") ["terms", "path", "term"] := ⟨fun _ _ _ _ _ _ us hl => match us, hl with | [_, _, _], _ => rfl⟩
theorem c35 : chkD bk (mkF pg 36 "unplain_in") (["world", "statement"], ["world", "statement", "made"]) Lib.unplain_in = true := by decide +kernel
theorem a35 : BindsD (mkF pg 36 "unplain_in") ["world", "statement"] := ⟨fun _ _ _ _ _ _ us hl => match us, hl with | [_, _], _ => rfl⟩
theorem c36 : chkD bk (mkF pg 37 "without_arg") (["world", "statement", "path", "length"], ["world", "statement", "path", "length", "wide", "fresh", "made", "matched"]) Lib.without_arg = true := by decide +kernel
theorem a36 : BindsD (mkF pg 37 "without_arg") ["world", "statement", "path", "length"] := ⟨fun _ _ _ _ _ _ us hl => match us, hl with | [_, _, _, _], _ => rfl⟩
theorem c37 : chkD bk (mkF pg 38 "lifted") (["world", "statement", "length"], ["world", "statement", "length", "found", "path", "slot", "term"]) Lib.lifted = true := by decide +kernel
theorem a37 : BindsD (mkF pg 38 "lifted") ["world", "statement", "length"] := ⟨fun _ _ _ _ _ _ us hl => match us, hl with | [_, _, _], _ => rfl⟩
theorem c38 : chkD bk (mkF pg 39 "cut_of") (["slot", "term", "statement"], ["slot", "term", "statement"]) Lib.cut_of = true := by decide +kernel
theorem a38 : BindsD (mkF pg 39 "cut_of") ["slot", "term", "statement"] := ⟨fun _ _ _ _ _ _ us hl => match us, hl with | [_, _, _], _ => rfl⟩
theorem c39 : chkD bk (mkF pg 40 "bound") (["world", "statement", "length"], ["world", "statement", "length", "made", "matched"]) Lib.bound = true := by decide +kernel
theorem a39 : BindsD (mkF pg 40 "bound") ["world", "statement", "length"] := ⟨fun _ _ _ _ _ _ us hl => match us, hl with | [_, _, _], _ => rfl⟩
theorem c40 : chkD bk (mkF pg 41 "handed") (["world", "statement", "length"], ["world", "statement", "length", "made", "matched"]) Lib.handed = true := by decide +kernel
theorem a40 : BindsD (mkF pg 41 "handed") ["world", "statement", "length"] := ⟨fun _ _ _ _ _ _ us hl => match us, hl with | [_, _, _], _ => rfl⟩
theorem c41 : chkD bk (mkF pg 42 "matched_up") (["world", "statement", "length"], ["world", "statement", "length", "made", "matched"]) Lib.matched_up = true := by decide +kernel
theorem a41 : BindsD (mkF pg 42 "matched_up") ["world", "statement", "length"] := ⟨fun _ _ _ _ _ _ us hl => match us, hl with | [_, _, _], _ => rfl⟩
theorem c42 : chkD bk (mkF pg 43 "called") (["world", "statement", "length"], ["world", "statement", "length", "_", "j", "terms"]) Lib.called = true := by decide +kernel
theorem a42 : BindsD (mkF pg 43 "called") ["world", "statement", "length"] := ⟨fun _ _ _ _ _ _ us hl => match us, hl with | [_, _, _], _ => rfl⟩
theorem c43 : chkD bk (mkM pg 45 0 "Plainer" "__init__" "Plainer.__init__") (["self", "world"], ["self", "world"]) Lib.Plainer___init__ = true := by decide +kernel
theorem a43 : BindsD (mkM pg 45 0 "Plainer" "__init__" "Plainer.__init__") ["self", "world"] := ⟨fun _ _ _ _ _ _ us hl => match us, hl with | [_, _], _ => rfl⟩
theorem c44 : chkD bk (mkM pg 45 1 "Plainer" "statement" "Plainer.statement") (["self", "x", "length"], ["self", "x", "length", "found", "around", "slot", "term"]) Lib.Plainer_statement = true := by decide +kernel
theorem a44 : BindsD (mkM pg 45 1 "Plainer" "statement" "Plainer.statement") ["self", "x", "length"] := ⟨fun _ _ _ _ _ _ us hl => match us, hl with | [_, _, _], _ => rfl⟩
theorem c45 : chkD bk (mkM pg 45 2 "Plainer" "inside" "Plainer.inside") (["self", "x", "length"], ["self", "x", "length"]) Lib.Plainer_inside = true := by decide +kernel
theorem a45 : BindsD (mkM pg 45 2 "Plainer" "inside" "Plainer.inside") ["self", "x", "length"] := ⟨fun _ _ _ _ _ _ us hl => match us, hl with | [_, _, _], _ => rfl⟩
theorem c46 : chkD bk (mkM pg 45 3 "Plainer" "terms" "Plainer.terms") (["self", "slots", "terms", "length"], ["self", "slots", "terms", "length", "slot", "term"]) Lib.Plainer_terms = true := by decide +kernel
theorem a46 : BindsD (mkM pg 45 3 "Plainer" "terms" "Plainer.terms") ["self", "slots", "terms", "length"] := ⟨fun _ _ _ _ _ _ us hl => match us, hl with | [_, _, _, _], _ => rfl⟩
theorem c47 : chkD bk (mkM pg 45 4 "Plainer" "term" "Plainer.term") (["self", "t", "x", "length"], ["self", "t", "x", "length", "shapes", "branches", "shape", "branch"]) Lib.Plainer_term = true := by decide +kernel
theorem a47 : BindsD (mkM pg 45 4 "Plainer" "term" "Plainer.term") ["self", "t", "x", "length"] := ⟨fun _ _ _ _ _ _ us hl => match us, hl with | [_, _, _, _], _ => rfl⟩
theorem c48 : chkD bk (mkF pg 46 "plain_form") (["program"], ["program", "world", "plainer", "definitions", "params", "body", "found"]) Lib.plain_form = true := by decide +kernel
theorem a48 : BindsD (mkF pg 46 "plain_form") ["program"] := ⟨fun _ _ _ _ _ _ us hl => match us, hl with | [_], _ => rfl⟩
theorem c49 : chkD bk (mkF pg 48 "after") (["world", "statement"], ["world", "statement", "found", "rule", "slot", "term", "rest"]) Lib.after = true := by decide +kernel
theorem a49 : BindsD (mkF pg 48 "after") ["world", "statement"] := ⟨fun _ _ _ _ _ _ us hl => match us, hl with | [_, _], _ => rfl⟩
theorem c50 : chkD bk (mkF pg 49 "bounded") (["statement"], ["statement"]) Lib.bounded = true := by decide +kernel
theorem a50 : BindsD (mkF pg 49 "bounded") ["statement"] := ⟨fun _ _ _ _ _ _ us hl => match us, hl with | [_], _ => rfl⟩
theorem c51 : chkD bk (mkF pg 50 "step") (["program", "statement"], ["program", "statement"]) Lib.step = true := by decide +kernel
theorem a51 : BindsD (mkF pg 50 "step") ["program", "statement"] := ⟨fun _ _ _ _ _ _ us hl => match us, hl with | [_, _], _ => rfl⟩
theorem c52 : chkD bk (mkF pg 51 "run") (["program", "most"], ["program", "most", "world", "statement", "length"]) Lib.run = true := by decide +kernel
theorem a52 : BindsD (mkF pg 51 "run") ["program", "most"] := ⟨fun _ _ _ _ _ _ us hl => match us, hl with | [_, _], _ => rfl⟩
theorem c53 : chkD bk (mkF pg 53 "_law_box") (["_law_script"], ["_law_script", "_law_x"]) Lib._law_box = true := by decide +kernel
theorem a53 : BindsD (mkF pg 53 "_law_box") ["_law_script"] := ⟨fun _ _ _ _ _ _ us hl => match us, hl with | [_], _ => rfl⟩
theorem c54 : chkD bk (mkF pg 54 "_law_take") (["_law_box_here", "_law_m"], ["_law_box_here", "_law_m", "_law_at", "_law_cell", "_law_told"]) Lib._law_take2 = true := by decide +kernel
theorem a54 : BindsD (mkF pg 54 "_law_take") ["_law_box_here", "_law_m"] := ⟨fun _ _ _ _ _ _ us hl => match us, hl with | [_, _], _ => rfl⟩
theorem c55 : chkD bk (mkF pg 55 "_law_pick") (["_law_box_here", "_law_menu"], ["_law_box_here", "_law_menu"]) Lib._law_pick = true := by decide +kernel
theorem a55 : BindsD (mkF pg 55 "_law_pick") ["_law_box_here", "_law_menu"] := ⟨fun _ _ _ _ _ _ us hl => match us, hl with | [_, _], _ => rfl⟩
theorem c56 : chkD bk (mkF pg 56 "_law_declared") (["_law_box_here"], ["_law_box_here", "_law_many", "_law_found", "_law_t", "_law_shapes", "_law_h", "_law_k"]) Lib._law_declared = true := by decide +kernel
theorem a56 : BindsD (mkF pg 56 "_law_declared") ["_law_box_here"] := ⟨fun _ _ _ _ _ _ us hl => match us, hl with | [_], _ => rfl⟩
theorem c57 : chkD bk (mkF pg 57 "_law_statement") (["_law_box_here", "_law_head", "_law_context", "_law_budget"], ["_law_box_here", "_law_head", "_law_context", "_law_budget", "_law_sort", "_law_t", "_law_j", "_law_share", "_law_slot"]) Lib._law_statement2 = true := by decide +kernel
theorem a57 : BindsD (mkF pg 57 "_law_statement") ["_law_box_here", "_law_head", "_law_context", "_law_budget"] := ⟨fun _ _ _ _ _ _ us hl => match us, hl with | [_, _, _, _], _ => rfl⟩
theorem c58 : chkD bk (mkF pg 58 "_law_term") (["_law_box_here", "_law_head", "_law_context", "_law_slot", "_law_budget"], ["_law_box_here", "_law_head", "_law_context", "_law_slot", "_law_budget", "_law_known", "_law_making_here", "_law_empty", "_law_h", "_law_share", "_law_sign", "_law_shapes", "_law_other", "_law_k", "_law_one", "_law_shape"]) Lib._law_term3 = true := by decide +kernel
theorem a58 : BindsD (mkF pg 58 "_law_term") ["_law_box_here", "_law_head", "_law_context", "_law_slot", "_law_budget"] := ⟨fun _ _ _ _ _ _ us hl => match us, hl with | [_, _, _, _, _], _ => rfl⟩
theorem c59 : chkD bk (mkF pg 59 "_law_program") (["_law_box_here"], ["_law_box_here", "_law_declared_here", "_law_params", "_law_j", "_law_head", "_law_budget", "_law_found", "_law_slots", "_law_k"]) Lib._law_program2 = true := by decide +kernel
theorem a59 : BindsD (mkF pg 59 "_law_program") ["_law_box_here"] := ⟨fun _ _ _ _ _ _ us hl => match us, hl with | [_], _ => rfl⟩
theorem c60 : chkD bk (mkF pg 60 "_law_making") (["_law_program_here", "_law_t"], ["_law_program_here", "_law_t"]) Lib._law_making = true := by decide +kernel
theorem a60 : BindsD (mkF pg 60 "_law_making") ["_law_program_here", "_law_t"] := ⟨fun _ _ _ _ _ _ us hl => match us, hl with | [_, _], _ => rfl⟩
theorem c61 : chkD bk (mkF pg 61 "_law_lift") (["_law_x", "_law_base", "_law_by"], ["_law_x", "_law_base", "_law_by", "_law_word", "_law_s", "_law_arg"]) Lib._law_lift = true := by decide +kernel
theorem a61 : BindsD (mkF pg 61 "_law_lift") ["_law_x", "_law_base", "_law_by"] := ⟨fun _ _ _ _ _ _ us hl => match us, hl with | [_, _, _], _ => rfl⟩
theorem c62 : chkD bk (mkF pg 62 "_law_put") (["_law_program_here", "_law_s", "_law_size_here", "_law_keep", "_law_args", "_law_base"], ["_law_program_here", "_law_s", "_law_size_here", "_law_keep", "_law_args", "_law_base", "_law_slots", "_law_k"]) Lib._law_put = true := by decide +kernel
theorem a62 : BindsD (mkF pg 62 "_law_put") ["_law_program_here", "_law_s", "_law_size_here", "_law_keep", "_law_args", "_law_base"] := ⟨fun _ _ _ _ _ _ us hl => match us, hl with | [_, _, _, _, _, _], _ => rfl⟩
theorem c63 : chkD bk (mkF pg 63 "_law_put_term") (["_law_program_here", "_law_t", "_law_x", "_law_size_here", "_law_keep", "_law_args", "_law_base"], ["_law_program_here", "_law_t", "_law_x", "_law_size_here", "_law_keep", "_law_args", "_law_base", "_law_shapes", "_law_slots", "_law_k", "_law_h"]) Lib._law_put_term = true := by decide +kernel
theorem a63 : BindsD (mkF pg 63 "_law_put_term") ["_law_program_here", "_law_t", "_law_x", "_law_size_here", "_law_keep", "_law_args", "_law_base"] := ⟨fun _ _ _ _ _ _ us hl => match us, hl with | [_, _, _, _, _, _, _], _ => rfl⟩
theorem c64 : chkD bk (mkF pg 64 "_law_is_plain") (["_law_program_here", "_law_slot", "_law_x"], ["_law_program_here", "_law_slot", "_law_x", "_law_slots", "_law_k"]) Lib._law_is_plain2 = true := by decide +kernel
theorem a64 : BindsD (mkF pg 64 "_law_is_plain") ["_law_program_here", "_law_slot", "_law_x"] := ⟨fun _ _ _ _ _ _ us hl => match us, hl with | [_, _, _], _ => rfl⟩
theorem c65 : chkD bk (mkF pg 65 "_law_are_plain") (["_law_program_here", "_law_slots", "_law_args"], ["_law_program_here", "_law_slots", "_law_args", "_law_k"]) Lib._law_are_plain2 = true := by decide +kernel
theorem a65 : BindsD (mkF pg 65 "_law_are_plain") ["_law_program_here", "_law_slots", "_law_args"] := ⟨fun _ _ _ _ _ _ us hl => match us, hl with | [_, _, _], _ => rfl⟩
theorem c66 : chkD bk (mkF pg 66 "_law_pull") (["_law_program_here", "_law_slots", "_law_args", "_law_n"], ["_law_program_here", "_law_slots", "_law_args", "_law_n", "_law_found", "_law_out", "_law_k", "_law_slot", "_law_term_here", "_law_inner"]) Lib._law_pull = true := by decide +kernel
theorem a66 : BindsD (mkF pg 66 "_law_pull") ["_law_program_here", "_law_slots", "_law_args", "_law_n"] := ⟨fun _ _ _ _ _ _ us hl => match us, hl with | [_, _, _, _], _ => rfl⟩
theorem c67 : chkD bk (mkF pg 67 "_law_sides") (["_law_program_here", "_law_s"], ["_law_program_here", "_law_s"]) Lib._law_sides = true := by decide +kernel
theorem a67 : BindsD (mkF pg 67 "_law_sides") ["_law_program_here", "_law_s"] := ⟨fun _ _ _ _ _ _ us hl => match us, hl with | [_, _], _ => rfl⟩
theorem c68 : chkD bk (mkF pg 68 "_law_third") (["_law_program_here", "_law_s", "_law_n"], ["_law_program_here", "_law_s", "_law_n", "_law_slot", "_law_term_here", "_law_more", "_law_old", "_law_slots", "_law_args", "_law_m", "_law_w", "_law_made", "_law_other"]) Lib._law_third = true := by decide +kernel
theorem a68 : BindsD (mkF pg 68 "_law_third") ["_law_program_here", "_law_s", "_law_n"] := ⟨fun _ _ _ _ _ _ us hl => match us, hl with | [_, _, _], _ => rfl⟩
theorem c69 : chkD bk (mkF pg 69 "_law_reduced") (["_law_program_here", "_law_s", "_law_n"], ["_law_program_here", "_law_s", "_law_n", "_law_m", "_law_w", "_law_slots", "_law_body"]) Lib._law_reduced = true := by decide +kernel
theorem a69 : BindsD (mkF pg 69 "_law_reduced") ["_law_program_here", "_law_s", "_law_n"] := ⟨fun _ _ _ _ _ _ us hl => match us, hl with | [_, _, _], _ => rfl⟩
theorem c70 : chkD bk (mkF pg 70 "_law_stepped") (["_law_program_here", "_law_s"], ["_law_program_here", "_law_s", "_law_third_here"]) Lib._law_stepped = true := by decide +kernel
theorem a70 : BindsD (mkF pg 70 "_law_stepped") ["_law_program_here", "_law_s"] := ⟨fun _ _ _ _ _ _ us hl => match us, hl with | [_, _], _ => rfl⟩
theorem c71 : chkD bk (mkF pg 71 "_law_size") (["_law_x"], ["_law_x", "_law_word", "_law_arg", "_law_s"]) Lib._law_size = true := by decide +kernel
theorem a71 : BindsD (mkF pg 71 "_law_size") ["_law_x"] := ⟨fun _ _ _ _ _ _ us hl => match us, hl with | [_], _ => rfl⟩
theorem c72 : chkD bk (mkF pg 72 "_law_deep") (["_law_x"], ["_law_x", "_law_word", "_law_arg", "_law_s"]) Lib._law_deep = true := by decide +kernel
theorem a72 : BindsD (mkF pg 72 "_law_deep") ["_law_x"] := ⟨fun _ _ _ _ _ _ us hl => match us, hl with | [_], _ => rfl⟩
theorem c73 : chkD bk (mkF pg 73 "_law_fits") (["_law_program_here"], ["_law_program_here", "_law_bodies", "_law_slots", "_law_body"]) Lib._law_fits2 = true := by decide +kernel
theorem a73 : BindsD (mkF pg 73 "_law_fits") ["_law_program_here"] := ⟨fun _ _ _ _ _ _ us hl => match us, hl with | [_], _ => rfl⟩
theorem c74 : chkD bk (mkF pg 74 "_law_small") (["_law_s"], ["_law_s"]) Lib._law_small2 = true := by decide +kernel
theorem a74 : BindsD (mkF pg 74 "_law_small") ["_law_s"] := ⟨fun _ _ _ _ _ _ us hl => match us, hl with | [_], _ => rfl⟩
theorem c75 : chkD bk (mkF pg 75 "_law_statements") (["_law_program_here", "_law_most"], ["_law_program_here", "_law_most", "_law_turn", "_law_found", "_law_kinds", "_law_told"]) Lib._law_statements2 = true := by decide +kernel
theorem a75 : BindsD (mkF pg 75 "_law_statements") ["_law_program_here", "_law_most"] := ⟨fun _ _ _ _ _ _ us hl => match us, hl with | [_, _], _ => rfl⟩
theorem c76 : chkD bk (mkF pg 76 "_law_plain_statement") (["_law_program_here", "_law_s", "_law_n"], ["_law_program_here", "_law_s", "_law_n", "_law_third_here", "_law_slots", "_law_k"]) Lib._law_plain_statement = true := by decide +kernel
theorem a76 : BindsD (mkF pg 76 "_law_plain_statement") ["_law_program_here", "_law_s", "_law_n"] := ⟨fun _ _ _ _ _ _ us hl => match us, hl with | [_, _, _], _ => rfl⟩
theorem c77 : chkD bk (mkF pg 77 "_law_plain_term") (["_law_program_here", "_law_t", "_law_x", "_law_n"], ["_law_program_here", "_law_t", "_law_x", "_law_n", "_law_shapes", "_law_slots", "_law_k", "_law_h"]) Lib._law_plain_term = true := by decide +kernel
theorem a77 : BindsD (mkF pg 77 "_law_plain_term") ["_law_program_here", "_law_t", "_law_x", "_law_n"] := ⟨fun _ _ _ _ _ _ us hl => match us, hl with | [_, _, _, _], _ => rfl⟩
theorem c78 : chkD bk (mkF pg 78 "_law_plain_program") (["_law_program_here"], ["_law_program_here", "_law_slots", "_law_body"]) Lib._law_plain_program = true := by decide +kernel
theorem a78 : BindsD (mkF pg 78 "_law_plain_program") ["_law_program_here"] := ⟨fun _ _ _ _ _ _ us hl => match us, hl with | [_], _ => rfl⟩
theorem c79 : chkD bk (mkF pg 79 "law") (["_law_script"], ["_law_script", "_law_box_here", "_law_program_here", "_law_due", "_law_told", "_law_forms", "_law_last", "_law_statement_here", "_law_k", "_law_found", "_law_kinds", "_law_s"]) Lib.law8 = true := by decide +kernel
theorem a79 : BindsD (mkF pg 79 "law") ["_law_script"] := ⟨fun _ _ _ _ _ _ us hl => match us, hl with | [_], _ => rfl⟩
theorem all : AllD bk pys nms bk.defs := ⟨c0, a0, ⟨c1, a1, ⟨c2, a2, ⟨c3, a3, ⟨c4, a4, ⟨c5, a5, ⟨c6, a6, ⟨c7, a7, ⟨c8, a8, ⟨c9, a9, ⟨c10, a10, ⟨c11, a11, ⟨c12, a12, ⟨c13, a13, ⟨c14, a14, ⟨c15, a15, ⟨c16, a16, ⟨c17, a17, ⟨c18, a18, ⟨c19, a19, ⟨c20, a20, ⟨c21, a21, ⟨c22, a22, ⟨c23, a23, ⟨c24, a24, ⟨c25, a25, ⟨c26, a26, ⟨c27, a27, ⟨c28, a28, ⟨c29, a29, ⟨c30, a30, ⟨c31, a31, ⟨c32, a32, ⟨c33, a33, ⟨c34, a34, ⟨c35, a35, ⟨c36, a36, ⟨c37, a37, ⟨c38, a38, ⟨c39, a39, ⟨c40, a40, ⟨c41, a41, ⟨c42, a42, ⟨c43, a43, ⟨c44, a44, ⟨c45, a45, ⟨c46, a46, ⟨c47, a47, ⟨c48, a48, ⟨c49, a49, ⟨c50, a50, ⟨c51, a51, ⟨c52, a52, ⟨c53, a53, ⟨c54, a54, ⟨c55, a55, ⟨c56, a56, ⟨c57, a57, ⟨c58, a58, ⟨c59, a59, ⟨c60, a60, ⟨c61, a61, ⟨c62, a62, ⟨c63, a63, ⟨c64, a64, ⟨c65, a65, ⟨c66, a66, ⟨c67, a67, ⟨c68, a68, ⟨c69, a69, ⟨c70, a70, ⟨c71, a71, ⟨c72, a72, ⟨c73, a73, ⟨c74, a74, ⟨c75, a75, ⟨c76, a76, ⟨c77, a77, ⟨c78, a78, ⟨c79, a79, True.intro⟩⟩⟩⟩⟩⟩⟩⟩⟩⟩⟩⟩⟩⟩⟩⟩⟩⟩⟩⟩⟩⟩⟩⟩⟩⟩⟩⟩⟩⟩⟩⟩⟩⟩⟩⟩⟩⟩⟩⟩⟩⟩⟩⟩⟩⟩⟩⟩⟩⟩⟩⟩⟩⟩⟩⟩⟩⟩⟩⟩⟩⟩⟩⟩⟩⟩⟩⟩⟩⟩⟩⟩⟩⟩⟩⟩⟩⟩⟩⟩
theorem bookOk : bk.ok pys = true := by decide +kernel
def nm0 : List Str := ["AntiphonError", "BadProgram", "TooMuch", "MOST_SIZE_world", "MOST_LEVELS_world", "other", "World", "measure", "parts_of", "inner_statements", "is_too_much", "MOST_TYPES", "MOST_SHAPES", "MOST_SLOTS", "MOST_DEFINITIONS", "MOST_LEVELS_check", "MOST_SIZE_check", "MOST_STOP", "DEEPEST", "is_within", "are_slots", "is_declaration", "are_declarations", "Judge", "are_headed", "is_program", "check_program", "Placing", "put", "first_unplain"]
def nm1 : List Str := ["with_arg", "unplain_in", "without_arg", "lifted", "cut_of", "bound", "handed", "matched_up", "called", "Plainer", "plain_form", "after", "bounded", "step", "run", "_law_box", "_law_take", "_law_pick", "_law_declared", "_law_statement", "_law_term", "_law_program", "_law_making", "_law_lift", "_law_put", "_law_put_term", "_law_is_plain", "_law_are_plain", "_law_pull", "_law_sides"]
def nm2 : List Str := ["_law_third", "_law_reduced", "_law_stepped", "_law_size", "_law_deep", "_law_fits", "_law_small", "_law_statements", "_law_plain_statement", "_law_plain_term", "_law_plain_program"]
def names : List Str := nm0 ++ nm1 ++ nm2
def lawIx : Nat := 205
def lawAt : Nat := 79
end K08

end
section
set_option linter.all false
set_option maxRecDepth 100000
/-! What is seen at a top's end, part by part. -/
namespace Ev
open PySem PySem.Spec PyProof.Rows
theorem map_two {σ α β : Type} {E : Option σ} {f : σ → α} {g : σ → β} {a : α} {b : β} (h1 : E.map f = some a) (h2 : E.map g = some b) : E.map (fun s => (f s, g s)) = some (a, b) := by
  cases E with
  | none => cases h1
  | some s =>
    simp only [Option.map_some, Option.some.injEq] at h1 h2 ⊢
    rw [h1, h2]
theorem obs_two {n : Nat} {fa1 fa2 : List He.Fa} {fn1 fn2 : List He.DefD} {g : Addr → Option Obj} (h1 : He.obsDG n fa1 fn1 g = He.valD fn1) (h2 : He.obsDG n fa2 fn2 g = He.valD fn2) : He.obsDG n (fa1 ++ fa2) (fn1 ++ fn2) g = He.valD (fn1 ++ fn2) := by
  unfold He.obsDG He.obsD He.valD at *
  simp only [Prod.mk.injEq, Bool.and_eq_true, List.all_append, List.map_append] at *
  exact ⟨⟨⟨h1.1.1, h2.1.1⟩, h1.1.2, h2.1.2⟩, by rw [h1.2, h2.2]⟩
theorem map_obs {σ : Type} {E : Option σ} {q : σ → Addr → Option Obj} {n : Nat} {fa1 fa2 : List He.Fa} {fn1 fn2 : List He.DefD} (h1 : E.map (fun s => He.obsDG n fa1 fn1 (q s)) = some (He.valD fn1)) (h2 : E.map (fun s => He.obsDG n fa2 fn2 (q s)) = some (He.valD fn2)) : E.map (fun s => He.obsDG n (fa1 ++ fa2) (fn1 ++ fn2) (q s)) = some (He.valD (fn1 ++ fn2)) := by
  cases E with
  | none => cases h1
  | some s =>
    simp only [Option.map_some, Option.some.injEq] at h1 h2 ⊢
    exact obs_two h1 h2
end Ev

end
section
set_option linter.all false
set_option maxRecDepth 100000
set_option maxHeartbeats 0
/-! K08: the law from the mathematics (printed by gen.py). -/
namespace K08
open PySem PySem.Spec PyProof.Rows L2 Ev
abbrev rw0 : PySem.W.OpenLaw := PySem.Challenge.rw_antiphon_k08_whole_runs_of_plain_forms
abbrev R0 : PySem.W.OpenRow := PySem.W.OpenLaw.row rw0
abbrev hk : PySem.W.Hook := He.hookD 4 bk.facts pys
def ob (s : PySem.W.SharedT) : He.AlD := He.obsDG 4 bk.facts pys (HandSHeadRun.getT s)
theorem ob_eq (s : PySem.W.SharedT) : ob s = hk.obs s.abs := He.obsDG_eq (HandSHeadRun.getT_eq s)
open HandSHeadRun PySem.W PySem.Calls in
theorem run0 (w : World) (os : OsState) : (endF (stepQ (denQ tabQ) R0.prog w) 20000 R0.prog w os).map (fun s => (looksF R0.prog (boot_heap w.params) s.abs, seenQ (PySem.W.view R0.prog [lawAt]) names (importedModules R0.prog.main.body) (fun s => xlAt (PySem.W.view R0.prog [lawAt]) [] s && recOk R0.toRowW.records s) s.abs)) = some (true, openGood (PySem.W.view R0.prog [lawAt]) names) := by
  kernel_rfl
open HandSHeadRun PySem.W PySem.Calls in
theorem run1 (w : World) (os : OsState) : (endF (stepQ (denQ tabQ) R0.prog w) 20000 R0.prog w os).map (fun s => He.obsDG 4 (bk.facts.take 40) (pys.take 22) (getT s)) = some (He.valD (pys.take 22)) := by
  kernel_rfl
open HandSHeadRun PySem.W PySem.Calls in
theorem run2 (w : World) (os : OsState) : (endF (stepQ (denQ tabQ) R0.prog w) 20000 R0.prog w os).map (fun s => He.obsDG 4 ((bk.facts.drop 40).take 40) ((pys.drop 22).take 22) (getT s)) = some (He.valD ((pys.drop 22).take 22)) := by
  kernel_rfl
open HandSHeadRun PySem.W PySem.Calls in
theorem run3 (w : World) (os : OsState) : (endF (stepQ (denQ tabQ) R0.prog w) 20000 R0.prog w os).map (fun s => He.obsDG 4 ((bk.facts.drop 80).take 40) ((pys.drop 44).take 22) (getT s)) = some (He.valD ((pys.drop 44).take 22)) := by
  kernel_rfl
open HandSHeadRun PySem.W PySem.Calls in
theorem run4 (w : World) (os : OsState) : (endF (stepQ (denQ tabQ) R0.prog w) 20000 R0.prog w os).map (fun s => He.obsDG 4 ((bk.facts.drop 120)) ((pys.drop 66)) (getT s)) = some (He.valD ((pys.drop 66))) := by
  kernel_rfl
theorem cut4 {α : Type} {l : List α} {k : Nat} : l.take k ++ ((l.drop k).take k ++ ((l.drop (2 * k)).take k ++ l.drop (3 * k))) = l := by
  have h : ∀ (m : List α), m.take k ++ m.drop k = m := fun m => List.take_append_drop k m
  have h3 : (l.drop (2 * k)).take k ++ l.drop (3 * k) = l.drop (2 * k) := by
    have := h (l.drop (2 * k))
    rwa [List.drop_drop, show 2 * k + k = 3 * k by omega] at this
  have h2 : (l.drop k).take k ++ l.drop (2 * k) = l.drop k := by
    have := h (l.drop k)
    rwa [List.drop_drop, show k + k = 2 * k by omega] at this
  rw [h3, h2, h]
theorem run (w : World) : HandSHeadRun.RunEq R0 (PySem.W.view R0.prog [lawAt]) hk ob 20000 names w := by
  intro os
  have q := map_obs (run1 w os) (map_obs (run2 w os) (map_obs (run3 w os) (run4 w os)))
  have e1 : bk.facts.take 40 ++ ((bk.facts.drop 40).take 40 ++ ((bk.facts.drop 80).take 40 ++ bk.facts.drop 120)) = bk.facts := cut4
  have e2 : pys.take 22 ++ ((pys.drop 22).take 22 ++ ((pys.drop 44).take 22 ++ pys.drop 66)) = pys := cut4
  rw [e1, e2] at q
  have z := map_two (run0 w os) q
  generalize HandSHeadRun.endF (HandSHeadRun.stepQ (HandSHeadRun.denQ HandSHeadRun.tabQ) R0.prog w) 20000 R0.prog w os = E at z ⊢
  cases E with
  | none => cases z
  | some s =>
    injection z with z
    injection z with z1 z2
    injection z1 with z3 z4
    exact congrArg some (Prod.ext z3 (Prod.ext z4 z2))
theorem facts {w : World} {h : Heap} {mg : Str → Option Value} {b : Addr} (Y : hk.says w h) (G : h.Ns mainGlobals mg) (e : mg ("law" : Str) = some (.ref b)) : ∃ (K : PySem.W.Frag) (ca fa : Nat → Addr), K.In h ∧ fa lawIx = b ∧ TopOk bk.cfg bk.nm ca fa K mg ∧ ∀ f d, bk.cfg.defs f = some d → FnFact bk.cfg bk.nm K (fa f) d := by
  obtain ⟨K, KX, c⟩ := Y
  have top := book_top bookOk KX G c
  refine ⟨K, caOf bk K, faOf bk pys K, KX, ?_, top, book_fn all c⟩
  have q := (top.fn lawIx "law" (by decide +kernel)).1
  rw [e] at q
  injection q with q
  injection q with q
  exact q.symm
end K08
open PySem PySem.W PySem.Calls PyProof.Rows
theorem K08.holds_of (math : ∀ ns : List Int, ns.length ≤ 63 → ∃ L, Ev.run K08.bk.cfg 690 K08.lawIx [.scr ns] [] = .ok (.bl true) L) : PySem.Challenge.rw_antiphon_k08_whole_runs_of_plain_forms.Holds := by
  w_on; o_law
  refine HandSHeadRun.head_any (r := OpenLaw.row PySem.Challenge.rw_antiphon_k08_whole_runs_of_plain_forms) (q := view (OpenLaw.row PySem.Challenge.rw_antiphon_k08_whole_runs_of_plain_forms).prog [K08.lawAt]) (H := K08.hk) (ob := K08.ob) (M := 20000) (loose := K08.names) (d := HandSHeadRun.topDef (OpenLaw.row PySem.Challenge.rw_antiphon_k08_whole_runs_of_plain_forms).prog K08.lawAt) (kwd := []) K08.ob_eq
    (by kernel_rfl) (fun s => by kernel_rfl) K08.run (by kernel_rfl) (by kernel_rfl) (by kernel_rfl) (by rfl) (by first | assumption | decide +kernel) (by decide +kernel) ⟨rfl, rfl, rfl, rfl, rfl, by decide +kernel⟩ ?hw ?hc
  case hw => w_witness2
  case hc =>
    refine Ev.walk_ev (l := PySem.Challenge.rw_antiphon_k08_whole_runs_of_plain_forms) (cfg := K08.bk.cfg) (nm := K08.bk.nm) (f := K08.lawIx) rfl (by kernel_rfl) ?F math
    intro w mg b h Y G hmg
    refine K08.facts (w := w) Y G ?_
    have e : (HandSHeadRun.topDef (OpenLaw.row PySem.Challenge.rw_antiphon_k08_whole_runs_of_plain_forms).prog K08.lawAt).name = ("law" : PySem.Str) := by kernel_rfl
    rw [← e]
    exact hmg


end
section
set_option linter.all false
/-! what the laws have in common (printed by gen.py). -/
open Ev
structure Base (cfg : Cfg) : Prop where
  tab : cfg.tab = Lib.voc
  d1 : cfg.defs 1 = some Lib.other
  d2 : cfg.defs 2 = some Lib.World___init__
  d3 : cfg.defs 3 = some Lib.World_making
  d4 : cfg.defs 4 = some Lib.World_shapes
  d5 : cfg.defs 5 = some Lib.World_params
  d6 : cfg.defs 6 = some Lib.World_body
  d7 : cfg.defs 7 = some Lib.World_is_plain
  d8 : cfg.defs 8 = some Lib.World_are_plain
  d9 : cfg.defs 9 = some Lib.World_sides
  d10 : cfg.defs 10 = some Lib.World_cut
  d11 : cfg.defs 11 = some Lib.measure
  d12 : cfg.defs 12 = some Lib.parts_of
  d13 : cfg.defs 13 = some Lib.inner_statements
  d14 : cfg.defs 14 = some Lib.is_too_much
  d15 : cfg.defs 15 = some Lib.is_within
  d16 : cfg.defs 16 = some Lib.are_slots
  d17 : cfg.defs 17 = some Lib.is_declaration
  d18 : cfg.defs 18 = some Lib.are_declarations
  d19 : cfg.defs 19 = some Lib.Judge___init__
  d20 : cfg.defs 20 = some Lib.Judge_has_form
  d21 : cfg.defs 21 = some Lib.Judge_met
  d22 : cfg.defs 22 = some Lib.Judge_statement
  d23 : cfg.defs 23 = some Lib.Judge_terms
  d24 : cfg.defs 24 = some Lib.Judge_term
  d25 : cfg.defs 25 = some Lib.are_headed
  d26 : cfg.defs 26 = some Lib.is_program
  d27 : cfg.defs 27 = some Lib.check_program
  d32 : cfg.defs 32 = some Lib.Placing___init__
  d33 : cfg.defs 33 = some Lib.Placing_variable
  d34 : cfg.defs 34 = some Lib.Placing_statement
  d35 : cfg.defs 35 = some Lib.Placing_all_terms
  d36 : cfg.defs 36 = some Lib.Placing_term
  d37 : cfg.defs 37 = some Lib.put
  d65 : cfg.defs 65 = some Lib.first_unplain
  d66 : cfg.defs 66 = some Lib.with_arg
  d67 : cfg.defs 67 = some Lib.unplain_in
  d68 : cfg.defs 68 = some Lib.without_arg
  d69 : cfg.defs 69 = some Lib.lifted
  d70 : cfg.defs 70 = some Lib.cut_of
  d85 : cfg.defs 85 = some Lib._law_box
  d87 : cfg.defs 87 = some Lib._law_pick
  d95 : cfg.defs 95 = some Lib._law_size
  d96 : cfg.defs 96 = some Lib._law_deep
  d132 : cfg.defs 132 = some Lib._law_take2
  d135 : cfg.defs 135 = some Lib._law_making
  d143 : cfg.defs 143 = some Lib.bound
  d144 : cfg.defs 144 = some Lib.handed
  d145 : cfg.defs 145 = some Lib.matched_up
  d146 : cfg.defs 146 = some Lib.called
  d147 : cfg.defs 147 = some Lib.after
  d148 : cfg.defs 148 = some Lib.bounded
  d150 : cfg.defs 150 = some Lib._law_declared
  d151 : cfg.defs 151 = some Lib._law_statement2
  d152 : cfg.defs 152 = some Lib._law_term3
  d153 : cfg.defs 153 = some Lib._law_program2
  d154 : cfg.defs 154 = some Lib._law_lift
  d155 : cfg.defs 155 = some Lib._law_put
  d156 : cfg.defs 156 = some Lib._law_put_term
  d157 : cfg.defs 157 = some Lib._law_is_plain2
  d158 : cfg.defs 158 = some Lib._law_are_plain2
  d159 : cfg.defs 159 = some Lib._law_pull
  d160 : cfg.defs 160 = some Lib._law_sides
  d161 : cfg.defs 161 = some Lib._law_third
  d162 : cfg.defs 162 = some Lib._law_reduced
  d163 : cfg.defs 163 = some Lib._law_stepped
  d164 : cfg.defs 164 = some Lib._law_fits2
  d165 : cfg.defs 165 = some Lib._law_small2
  m0_7 : cfg.mth 0 7 = some 10
  m0_8 : cfg.mth 0 8 = some 8
  m0_9 : cfg.mth 0 9 = some 3
  m0_10 : cfg.mth 0 10 = some 7
  m0_11 : cfg.mth 0 11 = some 4
  m0_21 : cfg.mth 0 21 = some 5
  m0_40 : cfg.mth 0 40 = some 9
  m0_42 : cfg.mth 0 42 = some 6
  m1_19 : cfg.mth 1 19 = some 23
  m1_22 : cfg.mth 1 22 = some 22
  m1_23 : cfg.mth 1 23 = some 21
  m1_24 : cfg.mth 1 24 = some 20
  m1_25 : cfg.mth 1 25 = some 24
  m2_22 : cfg.mth 2 22 = some 34
  m2_25 : cfg.mth 2 25 = some 36
  m2_29 : cfg.mth 2 29 = some 33
  m2_31 : cfg.mth 2 31 = some 35
  i0 : cfg.ini 0 = some 2
  i1 : cfg.ini 1 = some 19
  i2 : cfg.ini 2 = some 32
  f0_2 : cfg.fld 0 2 = true
  f0_3 : cfg.fld 0 3 = true
  f1_15 : cfg.fld 1 15 = true
  f1_16 : cfg.fld 1 16 = true
  f1_17 : cfg.fld 1 17 = true
  f2_15 : cfg.fld 2 15 = true
  f2_19 : cfg.fld 2 19 = true
  f2_26 : cfg.fld 2 26 = true
  f2_27 : cfg.fld 2 27 = true
  f2_28 : cfg.fld 2 28 = true
  g0 : cfg.glo 0 = .int 20000
  g2 : cfg.glo 2 = .int 100
  g4 : cfg.glo 4 = .int 5
  g6 : cfg.glo 6 = .int 4
  g8 : cfg.glo 8 = .int 3
  g10 : cfg.glo 10 = .int 6
  g12 : cfg.glo 12 = .int 30
  g14 : cfg.glo 14 = .int 400
  g16 : cfg.glo 16 = .int 9
  g18 : cfg.glo 18 = .int 110
  g123 : cfg.glo 123 = .fn 61
  v61 : cfg.fnm 61 = some 143
  g125 : cfg.glo 125 = .fn 62
  v62 : cfg.fnm 62 = some 144
  g127 : cfg.glo 127 = .fn 63
  v63 : cfg.fnm 63 = some 145

end
section
set_option linter.all false
set_option maxRecDepth 100000
/-! The evaluator's rules for simp (printed by genms.py from EvA). -/
namespace Ev
@[simp] theorem evE_var (cfg : Cfg) (cf ci : Call) {i} {ρ L} : evE cfg cf ci (.var i) ρ L = (match ρ[i]? with
    | some (some v) => .ok v L
    | _ => .bad) := by simp only [evE] <;> rfl
@[simp] theorem evE_non (cfg : Cfg) (cf ci : Call)  {ρ L} : evE cfg cf ci (.non) ρ L = (.ok .non L) := by simp only [evE] <;> rfl
@[simp] theorem evE_bl (cfg : Cfg) (cf ci : Call) {b} {ρ L} : evE cfg cf ci (.bl b) ρ L = (.ok (.bl b) L) := by simp only [evE] <;> rfl
@[simp] theorem evE_int (cfg : Cfg) (cf ci : Call) {i} {ρ L} : evE cfg cf ci (.int i) ρ L = (.ok (.int i) L) := by simp only [evE] <;> rfl
@[simp] theorem evE_str (cfg : Cfg) (cf ci : Call) {c} {ρ L} : evE cfg cf ci (.str c) ρ L = (.ok (.str c) L) := by simp only [evE] <;> rfl
@[simp] theorem evE_glo (cfg : Cfg) (cf ci : Call) {g} {ρ L} : evE cfg cf ci (.glo g) ρ L = (.ok (cfg.glo g) L) := by simp only [evE] <;> rfl
@[simp] theorem evE_tup (cfg : Cfg) (cf ci : Call) {es} {ρ L} : evE cfg cf ci (.tup es) ρ L = ((evEs cfg cf ci es ρ L).bind fun vs L => .ok (.tup vs) L) := by simp only [evE] <;> rfl
@[simp] theorem evE_lst (cfg : Cfg) (cf ci : Call) {es} {ρ L} : evE cfg cf ci (.lst es) ρ L = ((evEs cfg cf ci es ρ L).bind fun vs L => .ok (.ref L.length) (L ++ [.lst vs])) := by simp only [evE] <;> rfl
@[simp] theorem evE_dic (cfg : Cfg) (cf ci : Call) {ks es} {ρ L} : evE cfg cf ci (.dic ks es) ρ L = ((evEs cfg cf ci es ρ L).bind fun vs L => if ks.length = vs.length then .ok (.ref L.length) (L ++ [.dic ((ks.map Ky.s).zip vs)]) else .bad) := by simp only [evE] <;> rfl
@[simp] theorem evE_bin (cfg : Cfg) (cf ci : Call) {o a b} {ρ L} : evE cfg cf ci (.bin o a b) ρ L = ((evE cfg cf ci a ρ L).bind fun x L => (evE cfg cf ci b ρ L).bind fun y L => binR o L x y) := by simp only [evE] <;> rfl
@[simp] theorem evE_neg (cfg : Cfg) (cf ci : Call) {a} {ρ L} : evE cfg cf ci (.neg a) ρ L = ((evE cfg cf ci a ρ L).bind fun x L => match x with
    | .int i => .ok (.int (-i)) L
    | _ => .bad) := by simp only [evE] <;> rfl
@[simp] theorem evE_cmp (cfg : Cfg) (cf ci : Call) {o a b} {ρ L} : evE cfg cf ci (.cmp o a b) ρ L = ((evE cfg cf ci a ρ L).bind fun x L => (evE cfg cf ci b ρ L).bind fun y L => okB L (cmpR o L x y)) := by simp only [evE] <;> rfl
@[simp] theorem evE_chn (cfg : Cfg) (cf ci : Call) {o o' a b c} {ρ L} : evE cfg cf ci (.chn o o' a b c) ρ L = ((evE cfg cf ci a ρ L).bind fun x L => (evE cfg cf ci b ρ L).bind fun y L => match cmpR o L x y with
    | some true => (evE cfg cf ci c ρ L).bind fun z L => okB L (cmpR o' L y z)
    | some false => .ok (.bl false) L
    | none => .bad) := by simp only [evE] <;> rfl
@[simp] theorem evE_isn (cfg : Cfg) (cf ci : Call) {ng a} {ρ L} : evE cfg cf ci (.isn ng a) ρ L = ((evE cfg cf ci a ρ L).bind fun x L => .ok (.bl (match x with | .non => !ng | _ => ng)) L) := by simp only [evE] <;> rfl
@[simp] theorem evE_isb (cfg : Cfg) (cf ci : Call) {ng k a} {ρ L} : evE cfg cf ci (.isb ng k a) ρ L = ((evE cfg cf ci a ρ L).bind fun x L => match x with
    | .bl b => .ok (.bl ((b == k) != ng)) L
    | _ => .bad) := by simp only [evE] <;> rfl
@[simp] theorem evE_and (cfg : Cfg) (cf ci : Call) {a b} {ρ L} : evE cfg cf ci (.and a b) ρ L = ((evE cfg cf ci a ρ L).bind fun x L => match isTrue L x with
    | some true => evE cfg cf ci b ρ L
    | some false => .ok x L
    | none => .bad) := by simp only [evE] <;> rfl
@[simp] theorem evE_or (cfg : Cfg) (cf ci : Call) {a b} {ρ L} : evE cfg cf ci (.or a b) ρ L = ((evE cfg cf ci a ρ L).bind fun x L => match isTrue L x with
    | some false => evE cfg cf ci b ρ L
    | some true => .ok x L
    | none => .bad) := by simp only [evE] <;> rfl
@[simp] theorem evE_not (cfg : Cfg) (cf ci : Call) {a} {ρ L} : evE cfg cf ci (.not a) ρ L = ((evE cfg cf ci a ρ L).bind fun x L => okB L ((isTrue L x).map (!·))) := by simp only [evE] <;> rfl
@[simp] theorem evE_ite (cfg : Cfg) (cf ci : Call) {c a b} {ρ L} : evE cfg cf ci (.ite c a b) ρ L = ((evE cfg cf ci c ρ L).bind fun x L => match isTrue L x with
    | some true => evE cfg cf ci a ρ L
    | some false => evE cfg cf ci b ρ L
    | none => .bad) := by simp only [evE] <;> rfl
@[simp] theorem evE_fld (cfg : Cfg) (cf ci : Call) {a f} {ρ L} : evE cfg cf ci (.fld a f) ρ L = ((evE cfg cf ci a ρ L).bind fun x L => okD L (fldR cfg L x f)) := by simp only [evE] <;> rfl
@[simp] theorem evE_idx (cfg : Cfg) (cf ci : Call) {a b} {ρ L} : evE cfg cf ci (.idx a b) ρ L = ((evE cfg cf ci a ρ L).bind fun x L => (evE cfg cf ci b ρ L).bind fun y L => okD L (idxR L x y)) := by simp only [evE] <;> rfl
@[simp] theorem evE_slf (cfg : Cfg) (cf ci : Call) {a b} {ρ L} : evE cfg cf ci (.slf a b) ρ L = ((evE cfg cf ci a ρ L).bind fun x L => (evE cfg cf ci b ρ L).bind fun y L => sliR L true x y) := by simp only [evE] <;> rfl
@[simp] theorem evE_slt (cfg : Cfg) (cf ci : Call) {a b} {ρ L} : evE cfg cf ci (.slt a b) ρ L = ((evE cfg cf ci a ρ L).bind fun x L => (evE cfg cf ci b ρ L).bind fun y L => sliR L false x y) := by simp only [evE] <;> rfl
@[simp] theorem evE_rev (cfg : Cfg) (cf ci : Call) {a} {ρ L} : evE cfg cf ci (.rev a) ρ L = ((evE cfg cf ci a ρ L).bind fun x L => match x with
    | .ref n => match L[n]? with
      | some (.lst xs) => .ok (.ref L.length) (L ++ [.lst xs.reverse])
      | _ => .bad
    | _ => .bad) := by simp only [evE] <;> rfl
@[simp] theorem evE_call (cfg : Cfg) (cf ci : Call) {f es} {ρ L} : evE cfg cf ci (.call f es) ρ L = ((evEs cfg cf ci es ρ L).bind fun vs L => cf f vs L) := by simp only [evE] <;> rfl
@[simp] theorem evE_callv (cfg : Cfg) (cf ci : Call) {i es} {ρ L} : evE cfg cf ci (.callv i es) ρ L = (match ρ[i]? with
    | some (some (.fn k)) => match cfg.fnm k with
      | some f => (evEs cfg cf ci es ρ L).bind fun vs L => cf f vs L
      | none => .bad
    | _ => .bad) := by simp only [evE] <;> rfl
@[simp] theorem evE_mk (cfg : Cfg) (cf ci : Call) {c es} {ρ L} : evE cfg cf ci (.mk c es) ρ L = ((evEs cfg cf ci es ρ L).bind fun vs L => match cfg.ini c with
    | some f => (ci f (.ref L.length :: vs) (L ++ [.ins c []])).bind fun v L' => match v with
      | .non => .ok (.ref L.length) L'
      | _ => .bad
    | none => .bad) := by simp only [evE] <;> rfl
@[simp] theorem evE_mth (cfg : Cfg) (cf ci : Call) {o m es} {ρ L} : evE cfg cf ci (.mth o m es) ρ L = ((evE cfg cf ci o ρ L).bind fun x L => match mthR cfg L x m with
    | some f => (evEs cfg cf ci es ρ L).bind fun vs L => cf f (x :: vs) L
    | none => .bad) := by simp only [evE] <;> rfl
@[simp] theorem evE_bm (cfg : Cfg) (cf ci : Call) {m o es} {ρ L} : evE cfg cf ci (.bm m o es) ρ L = ((evE cfg cf ci o ρ L).bind fun x L => if bmOk m L x then (evEs cfg cf ci es ρ L).bind fun vs L => bmR m L x vs else .bad) := by simp only [evE] <;> rfl
@[simp] theorem evE_bf (cfg : Cfg) (cf ci : Call) {b es} {ρ L} : evE cfg cf ci (.bf b es) ρ L = ((evEs cfg cf ci es ρ L).bind fun vs L => bfR cfg.tab b L vs) := by simp only [evE] <;> rfl
@[simp] theorem evE_isi (cfg : Cfg) (cf ci : Call) {a t} {ρ L} : evE cfg cf ci (.isi a t) ρ L = ((evE cfg cf ci a ρ L).bind fun x L => okB L (isiR L x t)) := by simp only [evE] <;> rfl
@[simp] theorem evEs_nil (cfg : Cfg) (cf ci : Call)  {ρ L} : evEs cfg cf ci [] ρ L = (.ok [] L) := by simp only [evEs] <;> rfl
@[simp] theorem evEs_cons (cfg : Cfg) (cf ci : Call) {e es} {ρ L} : evEs cfg cf ci (e :: es) ρ L = ((evE cfg cf ci e ρ L).bind fun v L => (evEs cfg cf ci es ρ L).bind fun vs L => .ok (v :: vs) L) := by simp only [evEs] <;> rfl
@[simp] theorem evC_nil (cfg : Cfg) (cf ci : Call)  {ρ L} : evC cfg cf ci [] ρ L = (.ok true L) := by simp only [evC] <;> rfl
@[simp] theorem evC_cons (cfg : Cfg) (cf ci : Call) {e u0} {ρ L} : evC cfg cf ci (e :: u0) ρ L = ((evE cfg cf ci e ρ L).bind fun x L => match isTrue L x with
    | some b => .ok b L
    | none => .bad) := by simp only [evC] <;> rfl
@[simp] theorem evS_pass (cfg : Cfg) (cf ci : Call)  {ρ L} : evS cfg cf ci (.pass) ρ L = (.ok (.nx ρ) L) := by simp only [evS] <;> rfl
@[simp] theorem evS_expr (cfg : Cfg) (cf ci : Call) {e} {ρ L} : evS cfg cf ci (.expr e) ρ L = ((evE cfg cf ci e ρ L).bind fun _ L => .ok (.nx ρ) L) := by simp only [evS] <;> rfl
@[simp] theorem evS_ret (cfg : Cfg) (cf ci : Call) {e} {ρ L} : evS cfg cf ci (.ret e) ρ L = ((evE cfg cf ci e ρ L).bind fun v L => .ok (.ret v) L) := by simp only [evS] <;> rfl
@[simp] theorem evS_retn (cfg : Cfg) (cf ci : Call)  {ρ L} : evS cfg cf ci (.retn) ρ L = (.ok (.ret .non) L) := by simp only [evS] <;> rfl
@[simp] theorem evS_set (cfg : Cfg) (cf ci : Call) {i e} {ρ L} : evS cfg cf ci (.set i e) ρ L = ((evE cfg cf ci e ρ L).bind fun v L => .ok (.nx (ρ.set i (some v))) L) := by simp only [evS] <;> rfl
@[simp] theorem evS_setT (cfg : Cfg) (cf ci : Call) {tg e} {ρ L} : evS cfg cf ci (.setT tg e) ρ L = ((evE cfg cf ci e ρ L).bind fun v L => (asg cfg tg v ρ L).bind fun ρ' L => .ok (.nx ρ') L) := by simp only [evS] <;> rfl
@[simp] theorem evS_par (cfg : Cfg) (cf ci : Call) {i j a b} {ρ L} : evS cfg cf ci (.par i j a b) ρ L = ((evE cfg cf ci a ρ L).bind fun x L => (evE cfg cf ci b ρ L).bind fun y L => .ok (.nx ((ρ.set i (some x)).set j (some y))) L) := by simp only [evS] <;> rfl
@[simp] theorem evS_setF (cfg : Cfg) (cf ci : Call) {o f e} {ρ L} : evS cfg cf ci (.setF o f e) ρ L = ((evE cfg cf ci e ρ L).bind fun v L => (evE cfg cf ci o ρ L).bind fun x L => match setFR cfg L x f v with
    | some L' => .ok (.nx ρ) L'
    | none => .bad) := by simp only [evS] <;> rfl
@[simp] theorem evS_setI (cfg : Cfg) (cf ci : Call) {o i e} {ρ L} : evS cfg cf ci (.setI o i e) ρ L = ((evE cfg cf ci e ρ L).bind fun v L => (evE cfg cf ci o ρ L).bind fun x L => (evE cfg cf ci i ρ L).bind fun y L => match setIR L x y v with
    | some L' => .ok (.nx ρ) L'
    | none => .bad) := by simp only [evS] <;> rfl
@[simp] theorem evS_aug (cfg : Cfg) (cf ci : Call) {i o e} {ρ L} : evS cfg cf ci (.aug i o e) ρ L = (match ρ[i]? with
    | some (some (.int x)) => (evE cfg cf ci e ρ L).bind fun v L => match augI o x v with
      | some z => .ok (.nx (ρ.set i (some (.int z)))) L
      | none => .bad
    | _ => .bad) := by simp only [evS] <;> rfl
@[simp] theorem evS_augF (cfg : Cfg) (cf ci : Call) {a f o e} {ρ L} : evS cfg cf ci (.augF a f o e) ρ L = ((evE cfg cf ci a ρ L).bind fun x L => match fldR cfg L x f, clsR L x with
    | some (.int k), some c => (evE cfg cf ci e ρ L).bind fun v L => match augI o k v with
      | some z => if clsR L x = some c then (match setFR cfg L x f (.int z) with | some L' => .ok (.nx ρ) L' | none => .bad) else .bad
      | none => .bad
    | _, _ => .bad) := by simp only [evS] <;> rfl
@[simp] theorem evS_ite (cfg : Cfg) (cf ci : Call) {c a b} {ρ L} : evS cfg cf ci (.ite c a b) ρ L = ((evT cfg cf ci c ρ L).bind fun k L => if k then evB cfg cf ci a ρ L else evB cfg cf ci b ρ L) := by simp only [evS] <;> rfl
@[simp] theorem evS_whl (cfg : Cfg) (cf ci : Call) {c b} {ρ L} : evS cfg cf ci (.whl c b) ρ L = (loopW (evT cfg cf ci c) (evB cfg cf ci b) turns ρ L) := by simp only [evS] <;> rfl
@[simp] theorem evS_brk (cfg : Cfg) (cf ci : Call)  {ρ L} : evS cfg cf ci (.brk) ρ L = (.ok (.brk ρ) L) := by simp only [evS] <;> rfl
@[simp] theorem evS_cnt (cfg : Cfg) (cf ci : Call)  {ρ L} : evS cfg cf ci (.cnt) ρ L = (.ok (.cnt ρ) L) := by simp only [evS] <;> rfl
@[simp] theorem evS_raise (cfg : Cfg) (cf ci : Call) {c} {ρ L} : evS cfg cf ci (.raise c) ρ L = (.exc c L) := by simp only [evS] <;> rfl
@[simp] theorem evS_never (cfg : Cfg) (cf ci : Call)  {ρ L} : evS cfg cf ci (.never) ρ L = (.bad) := by simp only [evS] <;> rfl
@[simp] theorem evB_nil (cfg : Cfg) (cf ci : Call)  {ρ L} : evB cfg cf ci [] ρ L = (.ok (.nx ρ) L) := by simp only [evB] <;> rfl
@[simp] theorem evB_cons (cfg : Cfg) (cf ci : Call) {s r} {ρ L} : evB cfg cf ci (s :: r) ρ L = ((evS cfg cf ci s ρ L).bind fun f L => match f with
    | .nx ρ' => evB cfg cf ci r ρ' L
    | f => .ok f L) := by simp only [evB] <;> rfl
/-! loops -/
/-- a turn of a for -/
def turnF (cfg : Cfg) (cf ci : Call) (tg : Tg) (b : List S) : D → Env → LH → R (Step Env Fl) := fun d ρ L => (asg cfg tg d ρ L).bind fun ρ' L => (evB cfg cf ci b ρ' L).bind fun f L => match f with
  | .nx ρ' => .ok (.more ρ') L
  | .cnt ρ' => .ok (.more ρ') L
  | .brk ρ' => .ok (.done (.nx ρ')) L
  | .ret v => .ok (.done (.ret v)) L
@[simp] def endF : Step Env Fl → LH → R Fl
  | .more ρ', L => .ok (.nx ρ') L
  | .done f, L => .ok f L
theorem turnF_def {cfg : Cfg} {cf ci : Call} {tg : Tg} {b : List S} {d : D} {ρ : Env} {L : LH} : turnF cfg cf ci tg b d ρ L = (asg cfg tg d ρ L).bind fun ρ' L => (evB cfg cf ci b ρ' L).bind fun f L => match f with
  | .nx ρ' => .ok (.more ρ') L
  | .cnt ρ' => .ok (.more ρ') L
  | .brk ρ' => .ok (.done (.nx ρ')) L
  | .ret v => .ok (.done (.ret v)) L := id rfl
@[simp] theorem evS_for (cfg : Cfg) (cf ci : Call) {tg src es b ρ L} : evS cfg cf ci (.for tg src es b) ρ L = (evEs cfg cf ci es ρ L).bind fun vs L => match srcR src L vs with
  | some iv => (loopV (turnF cfg cf ci tg b) iv ρ L).bind endF
  | none => .bad := by
  simp only [evS]
  congr 1
  funext vs L
  cases srcR src L vs with
  | none => rfl
  | some iv =>
    show (loopV _ iv ρ L).bind _ = _
    congr 1
    funext s L
    cases s <;> rfl
/-- a turn of a list comprehension -/
def turnC (cfg : Cfg) (cf ci : Call) (tg : Tg) (own : List Nat) (cond : List E) (e : E) (ρ : Env) : D → List D → LH → R (Step (List D) Unit) := fun d acc L => (asg cfg tg d (wipe ρ own) L).calm.bind fun ρ' L => (evC cfg cf ci cond ρ' L).calm.bind fun b L =>
  if b then (evE cfg cf ci e ρ' L).calm.bind fun x L => if acc.length < most then .ok (.more (acc ++ [x])) L else .bad else .ok (.more acc) L
theorem turnC_def {cfg : Cfg} {cf ci : Call} {tg : Tg} {own : List Nat} {cond : List E} {e : E} {ρ : Env} {d : D} {acc : List D} {L : LH} : turnC cfg cf ci tg own cond e ρ d acc L = (asg cfg tg d (wipe ρ own) L).calm.bind fun ρ' L => (evC cfg cf ci cond ρ' L).calm.bind fun b L =>
  if b then (evE cfg cf ci e ρ' L).calm.bind fun x L => if acc.length < most then .ok (.more (acc ++ [x])) L else .bad else .ok (.more acc) L := id rfl
@[simp] def endC : Step (List D) Unit → LH → R D
  | .more acc, L => .ok (.ref L.length) (L ++ [.lst acc])
  | .done _, _ => .bad
@[simp] theorem evE_lc (cfg : Cfg) (cf ci : Call) {tg own src es cond e ρ L} : evE cfg cf ci (.lc tg own src es cond e) ρ L = (evEs cfg cf ci es ρ L).bind fun vs L => match srcR src L vs with
  | some iv => (loopV (turnC cfg cf ci tg own cond e ρ) iv [] L).bind endC
  | none => .bad := by
  simp only [evE]
  congr 1
  funext vs L
  cases srcR src L vs with
  | none => rfl
  | some iv =>
    show (loopV _ iv [] L).bind _ = _
    congr 1
    funext s L
    cases s <;> rfl
@[simp] theorem loopV_items {β γ : Type} {step : D → β → LH → R (Step β γ)} {ds : List D} {b : β} {L : LH} : loopV step (.items ds) b L = loopI step ds b L := id rfl
@[simp] theorem wipe_nil {ρ : Env} : wipe ρ [] = ρ := id rfl
@[simp] theorem wipe_cons {ρ : Env} {i : Nat} {r : List Nat} : wipe ρ (i :: r) = (wipe ρ r).set i none := id rfl
@[simp] theorem srcR_seq {L : LH} {xs : List D} : srcR .seq L [.tup xs] = some (.items xs) := id rfl
@[simp] theorem srcR_ref {L : LH} {n : Nat} : srcR .seq L [.ref n] = match L[n]? with
      | some (.lst _) => some (.lst n)
      | _ => none := id rfl
@[simp] theorem srcR_zip {L : LH} {xs ys : List D} : srcR .zip L [.tup xs, .tup ys] = some (.items (pairs xs ys)) := id rfl
@[simp] theorem srcR_enm {L : LH} {xs : List D} : srcR .enm L [.tup xs] = some (.items (nums 0 xs)) := id rfl
/-! small steps -/
@[simp] theorem evT_def (cfg : Cfg) (cf ci : Call) {e ρ L} : evT cfg cf ci e ρ L = (evE cfg cf ci e ρ L).bind fun x L => match isTrue L x with
  | some b => .ok b L
  | none => .bad := id rfl
@[simp] theorem bind_ok {α β : Type} {a : α} {L : LH} {f : α → LH → R β} : (R.ok a L).bind f = f a L := id rfl
@[simp] theorem calm_ok {α : Type} {a : α} {L : LH} : (R.ok a L).calm = R.ok a L := id rfl
@[simp] theorem okD_some {L : LH} {d : D} : okD L (some d) = .ok d L := id rfl
@[simp] theorem okB_some {L : LH} {d : Bool} : okB L (some d) = .ok (.bl d) L := id rfl
@[simp] theorem fldR_ref {cfg : Cfg} {L : LH} {n f : Nat} : fldR cfg L (.ref n) f = match L[n]? with
  | some (.ins c fs) => if cfg.fld c f then getK f fs else none
  | _ => none := id rfl
@[simp] theorem mthR_ref {cfg : Cfg} {L : LH} {n m : Nat} : mthR cfg L (.ref n) m = match L[n]? with
  | some (.ins c fs) => (match cfg.mth c m, getK m fs with
    | some f, none => some f
    | _, _ => none)
  | _ => none := id rfl
@[simp] theorem getK_nil {κ : Type} [DecidableEq κ] {k : κ} : getK k [] = none := id rfl
@[simp] theorem getK_cons {κ : Type} [DecidableEq κ] {k k' : κ} {v : D} {r : List (κ × D)} : getK k ((k', v) :: r) = if k = k' then some v else getK k r := id rfl
@[simp] theorem putK_nil {κ : Type} [DecidableEq κ] {k : κ} {v : D} : putK k v [] = [(k, v)] := id rfl
@[simp] theorem putK_cons {κ : Type} [DecidableEq κ] {k k' : κ} {v v' : D} {r : List (κ × D)} : putK k v ((k', v') :: r) = if k' = k then (k, v) :: r else (k', v') :: putK k v r := id rfl
theorem atI_nat {xs : List D} {i : Nat} : atI xs (i : Int) = xs[i]? := by
  unfold atI
  rw [if_pos (by omega)]
  simp
@[simp] theorem idxR_nat {L : LH} {xs : List D} {i : Nat} : idxR L (.tup xs) (.int (i : Int)) = xs[i]? := atI_nat
@[simp] theorem idxR_0 {L : LH} {xs : List D} : idxR L (.tup xs) (.int 0) = xs[0]? := atI_nat (i := 0)
@[simp] theorem idxR_1 {L : LH} {xs : List D} : idxR L (.tup xs) (.int 1) = xs[1]? := atI_nat (i := 1)
@[simp] theorem idxR_2 {L : LH} {xs : List D} : idxR L (.tup xs) (.int 2) = xs[2]? := atI_nat (i := 2)
@[simp] theorem idxR_3 {L : LH} {xs : List D} : idxR L (.tup xs) (.int 3) = xs[3]? := atI_nat (i := 3)
@[simp] theorem cmpR_eq {L : LH} {a b : D} : cmpR .eq L a b = eqR L a b := id rfl
@[simp] theorem cmpR_ne {L : LH} {a b : D} : cmpR .ne L a b = (eqR L a b).map (!·) := id rfl
@[simp] theorem cmpR_in {L : LH} {a b : D} : cmpR .isin L a b = inR L a b := id rfl
@[simp] theorem cmpR_nin {L : LH} {a b : D} : cmpR .notin L a b = (inR L a b).map (!·) := id rfl
@[simp] theorem cmpR_lt {L : LH} {a b : Int} : cmpR .lt L (.int a) (.int b) = some (decide (a < b)) := id rfl
@[simp] theorem cmpR_le {L : LH} {a b : Int} : cmpR .le L (.int a) (.int b) = some (decide (a ≤ b)) := id rfl
@[simp] theorem cmpR_gt {L : LH} {a b : Int} : cmpR .gt L (.int a) (.int b) = some (decide (b < a)) := id rfl
@[simp] theorem cmpR_ge {L : LH} {a b : Int} : cmpR .ge L (.int a) (.int b) = some (decide (b ≤ a)) := id rfl
@[simp] theorem eqR_str {L : LH} {a b : Nat} : eqR L (.str a) (.str b) = some (a == b) := id rfl
@[simp] theorem eqR_int {L : LH} {a b : Int} : eqR L (.int a) (.int b) = some (a == b) := id rfl
@[simp] theorem eqR_bl {L : LH} {a b : Bool} : eqR L (.bl a) (.bl b) = some (a == b) := id rfl
@[simp] theorem isTrue_non {L : LH} : isTrue L .non = some false := id rfl
@[simp] theorem isTrue_bl {L : LH} {b : Bool} : isTrue L (.bl b) = some b := id rfl
@[simp] theorem isTrue_int {L : LH} {i : Int} : isTrue L (.int i) = some (decide (i ≠ 0)) := id rfl
@[simp] theorem isTrue_tup {L : LH} {xs : List D} : isTrue L (.tup xs) = some (!xs.isEmpty) := id rfl
@[simp] theorem isTrue_ref {L : LH} {n : Nat} : isTrue L (.ref n) = match L[n]? with
    | some (.lst xs) => some (!xs.isEmpty)
    | some (.dic kvs) => some (!kvs.isEmpty)
    | _ => none := id rfl
@[simp] theorem asg_name {cfg : Cfg} {i : Nat} {v : D} {ρ : Env} {L : LH} : asg cfg (.name i) v ρ L = .ok (ρ.set i (some v)) L := by simp only [asg]
@[simp] theorem asg_tup {cfg : Cfg} {ts : List Tg} {ds : List D} {ρ : Env} {L : LH} : asg cfg (.tup ts) (.tup ds) ρ L = asgs cfg ts ds ρ L := by simp only [asg]
@[simp] theorem asgs_nil {cfg : Cfg} {ρ : Env} {L : LH} : asgs cfg [] [] ρ L = .ok ρ L := by simp only [asgs]
@[simp] theorem asgs_cons {cfg : Cfg} {t : Tg} {ts : List Tg} {d : D} {ds : List D} {ρ : Env} {L : LH} : asgs cfg (t :: ts) (d :: ds) ρ L = (asg cfg t d ρ L).bind fun ρ' L' => asgs cfg ts ds ρ' L' := by simp only [asgs]
@[simp] theorem binR_int {L : LH} {a b : Int} : binR .add L (.int a) (.int b) = .ok (.int (a + b)) L := id rfl
@[simp] theorem binR_sub {L : LH} {a b : Int} : binR .sub L (.int a) (.int b) = .ok (.int (a - b)) L := id rfl
@[simp] theorem bfR_len {tab : List PySem.Str} {L : LH} {xs : List D} : bfR tab .len L [.tup xs] = .ok (.int xs.length) L := id rfl
@[simp] theorem bfR_tup {tab : List PySem.Str} {L : LH} {n : Nat} : bfR tab .tuple L [.ref n] = match L[n]? with
      | some (.lst xs) => .ok (.tup xs) L
      | _ => .bad := id rfl
@[simp] theorem isiR_int {L : LH} {i : Int} {t : Ty} : isiR L (.int i) t = some (match t with | .int => true | _ => false) := by cases t <;> rfl
@[simp] theorem isiR_str {L : LH} {c : Nat} {t : Ty} : isiR L (.str c) t = some (match t with | .str => true | _ => false) := by cases t <;> rfl
@[simp] theorem isiR_tup {L : LH} {xs : List D} {t : Ty} : isiR L (.tup xs) t = some (match t with | .tuple => true | _ => false) := by cases t <;> rfl
end Ev

end
section
set_option linter.all false
set_option maxRecDepth 100000
/-! The mathematics: terms, statements, programs, and how they stand as data. -/
namespace Ap
open Ev

abbrev Slot := Bool × Nat
/-- terms and statements -/
inductive T where
  | var (k : Nat) | bind (s : T) | make (h : Nat) (as : List T) | mtch (ss : List T)
  | cut (t : Nat) (p c : T) | call (j : Nat) (as : List T) | stop (n : Nat)
abbrev Decl := Bool × List (List Slot)
structure Prog where
  decls : List Decl
  defs : List (List Slot × T)
def eSide (b : Bool) : D := .str (if b then 0 else 1)
def eSlot (s : Slot) : D := .tup [eSide s.1, .int s.2]
def eSlots (l : List Slot) : D := .tup (l.map eSlot)
def eDecl (d : Decl) : D := .tup [.str (if d.1 then 4 else 14), .tup (d.2.map eSlots)]
def eDecls (l : List Decl) : D := .tup (l.map eDecl)
mutual
def enc : T → D
  | .var k => .tup [.str 20, .int k]
  | .bind s => .tup [.str 5, enc s]
  | .make h as => .tup [.str 6, .int h, .tup (encs as)]
  | .mtch ss => .tup [.str 13, .tup (encs ss)]
  | .cut t p c => .tup [.str 7, .int t, enc p, enc c]
  | .call j as => .tup [.str 12, .int j, .tup (encs as)]
  | .stop n => .tup [.str 18, .int n]
def encs : List T → List D
  | [] => []
  | x :: xs => enc x :: encs xs
end
theorem encs_map : ∀ l : List T, encs l = l.map enc
  | [] => rfl
  | x :: xs => by rw [encs, encs_map xs, List.map_cons]
def eDef (d : List Slot × T) : D := .tup [eSlots d.1, enc d.2]
def eDefs (l : List (List Slot × T)) : D := .tup (l.map eDef)
def eProg (P : Prog) : D := .tup [eDecls P.decls, eDefs P.defs]
/-- the object of a world -/
def WAt (L : LH) (w : Nat) (P : Prog) : Prop := L[w]? = some (.ins 0 [(2, eDecls P.decls), (3, eDefs P.defs)])
theorem WAt.app {L G : LH} {w : Nat} {P : Prog} (h : WAt L w P) : WAt (L ++ G) w P := by
  unfold WAt at h ⊢
  rw [List.getElem?_append_left (List.getElem?_eq_some_iff.mp h).1]
  exact h
theorem run_succ {cfg : Cfg} {n f : Nat} {as : List D} {L : LH} : run cfg (n + 1) f as L = runDef cfg (run cfg n) (calls cfg n).2 f as L := rfl
theorem ini_succ {cfg : Cfg} {n : Nat} : (calls cfg (n + 1)).2 = run cfg n := rfl
/-- what a def's end is worth -/
@[simp] def endD : Fl → LH → R D
  | .ret v, L => .ok v L
  | .nx _, L => .ok .non L
  | _, _ => .bad
theorem runDef_of {cfg : Cfg} {cf ci : Call} {f : Nat} {as : List D} {L : LH} {d : Def} (h : cfg.defs f = some d) (hl : as.length = d.np) : runDef cfg cf ci f as L = (evB cfg cf ci d.body (as.map some ++ List.replicate (d.nl - d.np) none) L).bind endD := by
  unfold runDef
  rw [h]
  simp only [if_pos hl]
  congr 1
  funext fl L
  cases fl <;> rfl
/-! ### who makes -/
def Prog.makes (P : Prog) (t : Nat) : Bool := match P.decls[t]? with
  | some d => d.1
  | none => true
def Prog.shapes (P : Prog) (t : Nat) : List (List Slot) := match P.decls[t]? with
  | some d => d.2
  | none => []
/-- the slots of a shape -/
def Prog.shape (P : Prog) (t h : Nat) : List Slot := (P.shapes t).getD h []
theorem Prog.shape_at (P : Prog) {t h : Nat} (hh : h < (P.shapes t).length) : (P.shapes t)[h]? = some (P.shape t h) := by
  unfold Prog.shape
  rw [List.getD_eq_getElem?_getD, List.getElem?_eq_getElem hh]
  rfl
def Prog.params (P : Prog) (j : Nat) : List Slot := match P.defs[j]? with
  | some d => d.1
  | none => []
def Prog.body (P : Prog) (j : Nat) : T := match P.defs[j]? with
  | some d => d.2
  | none => .stop 0
section
variable {cfg : Cfg} (B : Base cfg) {n : Nat} {L : LH} {w : Nat} {P : Prog}
include B
theorem making_ok (hw : WAt L w P) {t : Nat} (ht : t < P.decls.length) : run cfg (n + 1) 3 [.ref w, .int t] L = .ok (eSide (P.makes t)) L := by
  obtain ⟨d, hd⟩ : ∃ d, P.decls[t]? = some d := ⟨_, List.getElem?_eq_getElem ht⟩
  have hm : P.makes t = d.1 := by unfold Prog.makes; rw [hd]
  unfold WAt at hw
  rw [run_succ, runDef_of B.d3 rfl]
  simp [Lib.World_making, hw, B.f0_2, eDecls, hd, eDecl, hm]
  cases d.1 <;> rfl
theorem shapes_ok (hw : WAt L w P) {t : Nat} (ht : t < P.decls.length) : run cfg (n + 1) 4 [.ref w, .int t] L = .ok (.tup ((P.shapes t).map eSlots)) L := by
  obtain ⟨d, hd⟩ : ∃ d, P.decls[t]? = some d := ⟨_, List.getElem?_eq_getElem ht⟩
  have hm : P.shapes t = d.2 := by unfold Prog.shapes; rw [hd]
  unfold WAt at hw
  rw [run_succ, runDef_of B.d4 rfl]
  simp [Lib.World_shapes, hw, B.f0_2, eDecls, hd, eDecl, hm]
theorem params_ok (hw : WAt L w P) {j : Nat} (hj : j < P.defs.length) : run cfg (n + 1) 5 [.ref w, .int j] L = .ok (eSlots (P.params j)) L := by
  obtain ⟨d, hd⟩ : ∃ d, P.defs[j]? = some d := ⟨_, List.getElem?_eq_getElem hj⟩
  have hm : P.params j = d.1 := by unfold Prog.params; rw [hd]
  unfold WAt at hw
  rw [run_succ, runDef_of B.d5 rfl]
  simp [Lib.World_params, hw, B.f0_3, eDefs, hd, eDef, hm]
theorem body_ok (hw : WAt L w P) {j : Nat} (hj : j < P.defs.length) : run cfg (n + 1) 6 [.ref w, .int j] L = .ok (enc (P.body j)) L := by
  obtain ⟨d, hd⟩ : ∃ d, P.defs[j]? = some d := ⟨_, List.getElem?_eq_getElem hj⟩
  have hm : P.body j = d.2 := by unfold Prog.body; rw [hd]
  unfold WAt at hw
  rw [run_succ, runDef_of B.d6 rfl]
  simp [Lib.World_body, hw, B.f0_3, eDefs, hd, eDef, hm]
theorem body_0 (hw : WAt L w P) (hj : 0 < P.defs.length) : run cfg (n + 1) 6 [.ref w, .int 0] L = .ok (enc (P.body 0)) L := body_ok B hw hj
theorem other_ok {b : Bool} : run cfg (n + 1) 1 [eSide b] L = .ok (eSide (!b)) L := by
  rw [run_succ, runDef_of B.d1 rfl]
  cases b <;> simp [Lib.other, eSide]
/-- the two sides of a cut: the maker ahead -/
def Prog.sides (P : Prog) (t : Nat) (p c : T) : T × T := if P.makes t then (p, c) else (c, p)
theorem sides_ok (hw : WAt L w P) {t : Nat} {p c : T} (ht : t < P.decls.length) : run cfg (n + 2) 9 [.ref w, enc (.cut t p c)] L = .ok (.tup [enc (P.sides t p c).1, enc (P.sides t p c).2]) L := by
  have hm := making_ok B (n := n) hw ht
  have hw' := hw
  unfold WAt at hw
  rw [run_succ, runDef_of B.d9 rfl]
  unfold Prog.sides
  cases hp : P.makes t <;> rw [hp] at hm <;> simp [Lib.World_sides, enc, hw, B.m0_9, hm, eSide]
theorem cut_ok (hw : WAt L w P) {t : Nat} {m o : D} (ht : t < P.decls.length) : run cfg (n + 2) 10 [.ref w, .int t, m, o] L = .ok (if P.makes t then .tup [.str 7, .int t, m, o] else .tup [.str 7, .int t, o, m]) L := by
  have hm := making_ok B (n := n) hw ht
  unfold WAt at hw
  rw [run_succ, runDef_of B.d10 rfl]
  cases hp : P.makes t <;> rw [hp] at hm <;> simp [Lib.World_cut, hw, B.m0_9, hm, eSide]
end
end Ap

end
section
set_option linter.all false
set_option maxRecDepth 100000
/-! What is right; what is plain. -/
namespace Ap
open Ev
def SlotOk (P : Prog) (s : Slot) : Prop := s.2 < P.decls.length
mutual
def okS (P : Prog) (ctx : List Slot) : T → Prop
  | .cut t p c => t < P.decls.length ∧ okT P ctx (true, t) p ∧ okT P ctx (false, t) c
  | .call j as => j < P.defs.length ∧ okTs P ctx (P.params j) as
  | .stop n => n ≤ 9
  | _ => False
def okT (P : Prog) (ctx : List Slot) (s : Slot) : T → Prop
  | .var k => ctx[k]? = some s
  | .bind x => okS P (ctx ++ [(!s.1, s.2)]) x
  | .make h as => s.1 = P.makes s.2 ∧ h < (P.shapes s.2).length ∧ okTs P ctx (P.shape s.2 h) as
  | .mtch ss => s.1 = !P.makes s.2 ∧ okBs P ctx (P.shapes s.2) ss
  | _ => False
def okTs (P : Prog) (ctx : List Slot) (sl : List Slot) : List T → Prop
  | [] => sl = []
  | x :: xs => ∃ s r, sl = s :: r ∧ okT P ctx s x ∧ okTs P ctx r xs
def okBs (P : Prog) (ctx : List Slot) (sh : List (List Slot)) : List T → Prop
  | [] => sh = []
  | x :: xs => ∃ s r, sh = s :: r ∧ okS P (ctx ++ s) x ∧ okBs P ctx r xs
end
/-- all slots are of types that there are; all bodies are right -/
structure PWf (P : Prog) : Prop where
  shp : ∀ t, ∀ sh ∈ P.shapes t, ∀ s ∈ sh, SlotOk P s
  par : ∀ j, ∀ s ∈ P.params j, SlotOk P s
  bod : ∀ j, j < P.defs.length → okS P (P.params j) (P.body j)
  shl : ∀ t h, (P.shape t h).length ≤ 3
  pal : ∀ j, (P.params j).length ≤ 3
  shn : ∀ t, (P.shapes t).length ≤ 4
  one : 0 < P.defs.length
  nop : P.params 0 = []
mutual
def td : T → Nat
  | .var _ => 1
  | .stop _ => 1
  | .bind s => 1 + td s
  | .make _ as => 1 + tds as
  | .mtch ss => 1 + tds ss
  | .cut _ p c => 1 + max (td p) (td c)
  | .call _ as => 1 + tds as
def tds : List T → Nat
  | [] => 0
  | x :: xs => max (td x) (tds xs)
end
mutual
def isPlain (P : Prog) (s : Slot) : T → Bool
  | .bind _ => s.1 != P.makes s.2
  | .make h as => arePlain P (P.shape s.2 h) as
  | _ => true
def arePlain (P : Prog) (sl : List Slot) : List T → Bool
  | [] => true
  | x :: xs => match sl with
    | [] => true
    | s :: r => isPlain P s x && arePlain P r xs
end
theorem PWf.shape {P : Prog} (W : PWf P) {t h : Nat} : ∀ s ∈ P.shape t h, SlotOk P s := by
  intro s m
  unfold Prog.shape at m
  by_cases hh : h < (P.shapes t).length
  · rw [List.getD_eq_getElem?_getD, List.getElem?_eq_getElem hh] at m
    exact W.shp t _ (List.getElem_mem hh) s m
  · rw [List.getD_eq_getElem?_getD, List.getElem?_eq_none (by omega)] at m
    simp at m
theorem td_pos : ∀ x : T, 1 ≤ td x := by
  intro x
  cases x <;> simp [td] <;> omega
section
variable {cfg : Cfg} (B : Base cfg) {w : Nat} {P : Prog}
include B
/-- the loop of are_plain -/
theorem arePlain_loop {n : Nat} {L : LH} (ih : ∀ (x : T) (s : Slot) (ctx : List Slot), SlotOk P s → okT P ctx s x → 2 * td x + 2 ≤ n → run cfg n 7 [.ref w, eSlot s, enc x] L = .ok (.bl (isPlain P s x)) L) (hw : L[w]? = some (.ins 0 [(2, eDecls P.decls), (3, eDefs P.defs)])) {a b : Option D} :
    ∀ (xs : List T) (sl : List Slot) (ctx : List Slot) (r3 r4 : Option D), (∀ s ∈ sl, SlotOk P s) → okTs P ctx sl xs → 2 * tds xs + 2 ≤ n →
      ∃ r3' r4', loopI (turnF cfg (run cfg n) (calls cfg n).2 (.tup [.name 3, .name 4]) [.ite (.not (.mth (.var 0) 10 [.var 3, .var 4])) [.ret (.bl false)] []]) (pairs (sl.map eSlot) (encs xs)) [some (.ref w), a, b, r3, r4] L
      = .ok (if arePlain P sl xs then .more [some (.ref w), a, b, r3', r4'] else .done (.ret (.bl false))) L
  | [], sl, ctx, r3, r4, _, h, _ => by
    simp only [okTs] at h
    subst h
    exact ⟨r3, r4, by simp [pairs, encs, loopI, arePlain]⟩
  | x :: xs, sl, ctx, r3, r4, hs, h, hn => by
    simp only [okTs] at h
    obtain ⟨s, r, rfl, h1, h2⟩ := h
    simp only [tds] at hn
    have e := ih x s ctx (hs s List.mem_cons_self) h1 (by omega)
    obtain ⟨q3, q4, q⟩ := arePlain_loop (a := a) (b := b) ih hw xs r ctx (some (eSlot s)) (some (enc x)) (fun y m => hs y (List.mem_cons_of_mem _ m)) h2 (by omega)
    simp only [List.map_cons, encs, pairs, loopI, arePlain]
    rcases Bool.eq_false_or_eq_true (isPlain P s x) with hp | hp
    · rw [hp] at e
      refine ⟨q3, q4, ?_⟩
      simp [turnF_def, hw, B.m0_10, e, hp, q]
    · rw [hp] at e
      exact ⟨none, none, by simp [turnF_def, hw, B.m0_10, e, hp]⟩
theorem plain_ok {L : LH} (W : PWf P) (hw : WAt L w P) : ∀ n, (∀ (x : T) (s : Slot) (ctx : List Slot), SlotOk P s → okT P ctx s x → 2 * td x + 2 ≤ n → run cfg n 7 [.ref w, eSlot s, enc x] L = .ok (.bl (isPlain P s x)) L) ∧
    ∀ (xs : List T) (sl : List Slot) (ctx : List Slot), (∀ s ∈ sl, SlotOk P s) → okTs P ctx sl xs → 2 * tds xs + 3 ≤ n → run cfg n 8 [.ref w, eSlots sl, .tup (encs xs)] L = .ok (.bl (arePlain P sl xs)) L
  | 0 => ⟨fun x s ctx _ _ h => by omega, fun xs sl ctx _ _ h => by omega⟩
  | n + 1 => by
    obtain ⟨ih1, ih2⟩ := plain_ok W hw n
    have hw' := hw
    unfold WAt at hw
    refine ⟨fun x s ctx hs h hn => ?_, fun xs sl ctx hs h hn => ?_⟩
    · obtain ⟨m, rfl⟩ : ∃ m, n = m + 1 := ⟨n - 1, by have := td_pos x; omega⟩
      have mk := making_ok B (n := m) hw' hs
      have sh := shapes_ok B (n := m) hw' hs
      rw [run_succ, runDef_of B.d7 rfl]
      cases x with
      | var k => simp [Lib.World_is_plain, enc, eSlot, isPlain]
      | bind y =>
        simp [Lib.World_is_plain, enc, eSlot, isPlain, hw, B.m0_9, mk]
        cases s.1 <;> cases P.makes s.2 <;> simp [eSide]
      | make k as =>
        simp only [okT] at h
        obtain ⟨h1, h2, h3⟩ := h
        simp only [td] at hn
        have e := P.shape_at h2
        have q := ih2 as _ ctx (W.shape) h3 (by omega)
        simp [Lib.World_is_plain, enc, eSlot, isPlain, hw, B.m0_11, B.m0_8, sh, e, q]
      | mtch ss => simp [Lib.World_is_plain, enc, eSlot, isPlain]
      | _ => simp [okT] at h
    · rw [run_succ, runDef_of B.d8 rfl]
      unfold eSlots
      obtain ⟨q3, q4, q⟩ := arePlain_loop B (n := n) ih1 hw (a := some (.tup (sl.map eSlot))) (b := some (.tup (encs xs))) xs sl ctx none none hs h (by omega)
      simp [Lib.World_are_plain, eSlots, q]
      rcases Bool.eq_false_or_eq_true (arePlain P sl xs) with hp | hp <;> simp [hp]
end
end Ap

end
section
set_option linter.all false
set_option maxRecDepth 100000
/-! Placing: substitution. -/
namespace Ap
open Ev
mutual
def lift (b d : Nat) : T → T
  | .var k => if b ≤ k then .var (k + d) else .var k
  | .bind s => .bind (lift b d s)
  | .make h as => .make h (lifts b d as)
  | .mtch ss => .mtch (lifts b d ss)
  | .cut t p c => .cut t (lift b d p) (lift b d c)
  | .call j as => .call j (lifts b d as)
  | .stop n => .stop n
def lifts (b d : Nat) : List T → List T
  | [] => []
  | x :: xs => lift b d x :: lifts b d xs
end
/-- a variable, where the terms are put for the variables from f on -/
def subV (f : Nat) (as : List T) (l inner k : Nat) : T := if k < f then .var k else match as[k - f]? with
  | some a => if inner = 0 then a else lift l inner a
  | none => .var (k - (f + as.length) + l)
section
variable (P : Prog) (f : Nat) (as : List T) (l : Nat)
mutual
def subS (inner : Nat) : T → T
  | .cut t p c => .cut t (subT t inner p) (subT t inner c)
  | .call j xs => .call j (subTs (P.params j) inner xs)
  | x => x
def subT (t inner : Nat) : T → T
  | .var k => subV f as l inner k
  | .bind s => .bind (subS (inner + 1) s)
  | .make h xs => .make h (subTs (P.shape t h) inner xs)
  | .mtch ss => .mtch (subBs (P.shapes t) inner ss)
  | x => x
def subTs (sl : List Slot) (inner : Nat) : List T → List T
  | [] => []
  | x :: xs => match sl with
    | [] => []
    | s :: r => subT s.2 inner x :: subTs r inner xs
def subBs (sh : List (List Slot)) (inner : Nat) : List T → List T
  | [] => []
  | x :: xs => match sh with
    | [] => []
    | s :: r => subS (inner + s.length) x :: subBs r inner xs
end
end
/-- the object of a placing -/
def PAt (L : LH) (p w f : Nat) (as : List T) (l : Nat) : Prop := L[p]? = some (.ins 2 [(15, .ref w), (26, .int f), (19, .tup (encs as)), (27, .int l), (28, .int ((f : Int) + (as.length : Int)))])
theorem PAt.app {L G : LH} {p w f l : Nat} {as : List T} (h : PAt L p w f as l) : PAt (L ++ G) p w f as l := by
  unfold PAt at h ⊢
  rw [List.getElem?_append_left (List.getElem?_eq_some_iff.mp h).1]
  exact h
theorem encs_length : ∀ l : List T, (encs l).length = l.length
  | [] => rfl
  | x :: xs => by simp [encs, encs_length xs]
theorem encs_get (l : List T) (k : Nat) : (encs l)[k]? = (l[k]?).map enc := by rw [encs_map, List.getElem?_map]
theorem at_end {L : LH} {o : LO} {G : LH} : (L ++ o :: G)[L.length]? = some o := by simp
theorem set_end {L : LH} {o o' : LO} {G : LH} : (L ++ o :: G).set L.length o' = L ++ o' :: G := by
  rw [List.set_append_right _ _ (Nat.le_refl _)]
  simp
section
variable {cfg : Cfg} (B : Base cfg) {w : Nat} {P : Prog} {f : Nat} {as : List T} {l : Nat}
include B
theorem variable_out {n p inner t k : Nat} {L : LH} (hp : PAt L p w f as l) (hk : k < f ∨ f + as.length ≤ k) : run cfg (n + 1) 33 [.ref p, .int t, .int k, .int inner] L = .ok (enc (subV f as l inner k)) L := by
  unfold PAt at hp
  rw [run_succ, runDef_of B.d33 rfl]
  unfold subV
  by_cases h1 : k < f
  · simp [Lib.Placing_variable, hp, B.f2_26, h1, enc]
  · have h2 : f + as.length ≤ k := by omega
    have h3 : as[k - f]? = none := List.getElem?_eq_none (by omega)
    have h4 : (f : Int) + (as.length : Int) ≤ (k : Int) := by omega
    have h5 : ((k - (f + as.length) + l : Nat) : Int) = (k : Int) - ((f : Int) + (as.length : Int)) + (l : Int) := by omega
    simp [Lib.Placing_variable, hp, B.f2_26, B.f2_28, B.f2_27, h1, h3, h4, enc]
    omega
/-- the k-th argument, of a type, is put as it must be -/
def VOk (cfg : Cfg) (w : Nat) (P : Prog) (f : Nat) (as : List T) (l N k t : Nat) : Prop := ∀ (inner : Nat) (L : LH) (p n : Nat), WAt L w P → PAt L p w f as l → N ≤ n → ∃ G, run cfg n 33 [.ref p, .int t, .int ((f + k : Nat) : Int), .int inner] L = .ok (enc (subV f as l inner (f + k))) (L ++ G)
/-- a context in which the arguments stand -/
structure CtxOk (cfg : Cfg) (w : Nat) (P : Prog) (f : Nat) (as : List T) (l N : Nat) (ctx : List Slot) : Prop where
  len : f + as.length ≤ ctx.length
  arg : ∀ (k : Nat) (s : Slot), k < as.length → ctx[f + k]? = some s → VOk cfg w P f as l N k s.2
omit B in
theorem CtxOk.app {N : Nat} {ctx e : List Slot} (c : CtxOk cfg w P f as l N ctx) : CtxOk cfg w P f as l N (ctx ++ e) :=
  ⟨by have := c.len; simp; omega, fun k s hk h => c.arg k s hk (by rw [List.getElem?_append_left (by have := c.len; omega)] at h; exact h)⟩
omit B in
theorem cast_succ (i : Nat) : ((i + 1 : Nat) : Int) = (i : Int) + 1 := by omega
/-- the loop of all_terms -/
theorem allTerms_loop {n p inner : Nat} {r0 r1 r2 r3 : Option D} (N : Nat) (ih : ∀ (x : T) (s : Slot) (ctx : List Slot) (L : LH), okT P ctx s x → SlotOk P s → CtxOk cfg w P f as l N ctx → WAt L w P → PAt L p w f as l → 2 * td x + N ≤ n → ∃ G, run cfg n 36 [.ref p, .int s.2, enc x, .int inner] L = .ok (enc (subT P f as l s.2 inner x)) (L ++ G))
    (hr : r0 = some (.ref p)) (hr3 : r3 = some (.int inner)) : ∀ (xs : List T) (sl ctx : List Slot) (acc : List D) (L : LH), okTs P ctx sl xs → (∀ s ∈ sl, SlotOk P s) → CtxOk cfg w P f as l N ctx → WAt L w P → PAt L p w f as l → 2 * tds xs + N ≤ n → acc.length + xs.length ≤ 1000 →
      ∃ G, loopI (turnC cfg (run cfg n) (calls cfg n).2 (.tup [.name 4, .name 5]) [4, 5] [] (.mth (.var 0) 25 [.idx (.var 4) (.int 1), .var 5, .var 3]) [r0, r1, r2, r3, none, none]) (pairs (sl.map eSlot) (encs xs)) acc L = .ok (.more (acc ++ encs (subTs P f as l sl inner xs))) (L ++ G)
  | [], sl, ctx, acc, L, h, _, _, _, _, _, _ => by
    simp only [okTs] at h
    subst h
    exact ⟨[], by simp [pairs, encs, loopI, subTs]⟩
  | x :: xs, sl, ctx, acc, L, h, hs, hc, hw, hp, hn, hl => by
    simp only [okTs] at h
    obtain ⟨s, r, rfl, h1, h2⟩ := h
    simp only [tds] at hn
    obtain ⟨G1, e1⟩ := ih x s ctx L h1 (hs s List.mem_cons_self) hc hw hp (by omega)
    obtain ⟨G2, e2⟩ := allTerms_loop N ih hr hr3 xs r ctx (acc ++ [enc (subT P f as l s.2 inner x)]) (L ++ G1) h2 (fun y m => hs y (List.mem_cons_of_mem _ m)) hc hw.app hp.app (by omega) (by simp at hl ⊢; omega)
    refine ⟨G1 ++ G2, ?_⟩
    have hm : acc.length < most := by unfold most; simp at hl; omega
    subst hr hr3
    unfold PAt at hp
    simp only [List.map_cons, encs, pairs, loopI, subTs]
    simp [turnC_def, eSlot, hp, B.m2_25, e1, hm]
    rw [e2]
    simp
omit B in
theorem okTs_len {ctx : List Slot} : ∀ {xs : List T} {sl : List Slot}, okTs P ctx sl xs → xs.length = sl.length
  | [], sl, h => by simp only [okTs] at h; subst h; rfl
  | x :: xs, sl, h => by
    simp only [okTs] at h
    obtain ⟨s, r, rfl, _, h2⟩ := h
    rw [List.length_cons, List.length_cons, okTs_len h2]
omit B in
theorem okBs_len {ctx : List Slot} : ∀ {xs : List T} {sl : List (List Slot)}, okBs P ctx sl xs → xs.length = sl.length
  | [], sl, h => by simp only [okBs] at h; subst h; rfl
  | x :: xs, sl, h => by
    simp only [okBs] at h
    obtain ⟨s, r, rfl, _, h2⟩ := h
    rw [List.length_cons, List.length_cons, okBs_len h2]
/-- the loop over the branches of a match -/
theorem branches_loop {n p inner b : Nat} {r1 r2 r4 : Option D} {L0 : LH} (N : Nat) (ih : ∀ (x : T) (inner : Nat) (ctx : List Slot) (L : LH), okS P ctx x → CtxOk cfg w P f as l N ctx → WAt L w P → PAt L p w f as l → 2 * td x + N ≤ n → ∃ G, run cfg n 34 [.ref p, enc x, .int inner] L = .ok (enc (subS P f as l inner x)) (L ++ G)) (hw : WAt L0 w P) (hp : PAt L0 p w f as l) (hb : b = L0.length) :
    ∀ (xs : List T) (sh : List (List Slot)) (ctx : List Slot) (acc : List D) (G : LH) (r6 r7 : Option D), okBs P ctx sh xs → CtxOk cfg w P f as l N ctx → 2 * tds xs + N ≤ n → acc.length + xs.length ≤ 1000 →
      ∃ G' r6' r7', loopI (turnF cfg (run cfg n) (calls cfg n).2 (.tup [.name 6, .name 7]) [.expr (.bm .append (.var 5) [.mth (.var 0) 22 [.var 7, .bin .add (.var 3) (.bf .len [.var 6])]])]) (pairs (sh.map eSlots) (encs xs)) [some (.ref p), r1, r2, some (.int inner), r4, some (.ref b), r6, r7] (L0 ++ .lst acc :: G)
        = .ok (.more [some (.ref p), r1, r2, some (.int inner), r4, some (.ref b), r6', r7']) (L0 ++ .lst (acc ++ encs (subBs P f as l sh inner xs)) :: G')
  | [], sh, ctx, acc, G, r6, r7, h, _, _, _ => by
    simp only [okBs] at h
    subst h
    exact ⟨G, r6, r7, by simp [pairs, encs, loopI, subBs]⟩
  | x :: xs, sh, ctx, acc, G, r6, r7, h, hc, hn, hl => by
    simp only [okBs] at h
    obtain ⟨s, r, rfl, h1, h2⟩ := h
    simp only [tds] at hn
    have hm : acc.length < most := by unfold most; simp at hl; omega
    obtain ⟨G1, e1⟩ := ih x (inner + s.length) (ctx ++ s) (L0 ++ .lst acc :: G) h1 hc.app hw.app hp.app (by omega)
    obtain ⟨G2, q6, q7, e2⟩ := branches_loop (inner := inner) (r1 := r1) (r2 := r2) (r4 := r4) N ih hw hp hb xs r ctx (acc ++ [enc (subS P f as l (inner + s.length) x)]) (G ++ G1) (some (eSlots s)) (some (enc x)) h2 hc (by omega) (by simp at hl ⊢; omega)
    refine ⟨G2, q6, q7, ?_⟩
    have hp' := hp.app (G := .lst acc :: G)
    unfold PAt at hp'
    subst hb
    have e3 : (L0 ++ LO.lst acc :: G) ++ G1 = L0 ++ LO.lst acc :: (G ++ G1) := by simp
    have at1 : (L0 ++ LO.lst acc :: G)[L0.length]? = some (.lst acc) := at_end
    have at2 : (L0 ++ LO.lst acc :: (G ++ G1))[L0.length]? = some (.lst acc) := at_end
    have st : ∀ o', (L0 ++ LO.lst acc :: (G ++ G1)).set L0.length o' = L0 ++ o' :: (G ++ G1) := fun o' => set_end
    rw [Int.natCast_add] at e1
    simp only [List.map_cons, encs, pairs, loopI, subBs]
    rw [e3] at e1
    simp [turnF_def, bmOk, hp', B.m2_22, eSlots, e1, bmR, hm, st]
    simp only [List.append_assoc, eSlots] at e2
    simp [e2]
theorem placing_ok (W : PWf P) (N : Nat) : ∀ n,
    (∀ (x : T) (inner : Nat) (ctx : List Slot) (L : LH) (p : Nat), okS P ctx x → CtxOk cfg w P f as l N ctx → WAt L w P → PAt L p w f as l → 2 * td x + N ≤ n → ∃ G, run cfg n 34 [.ref p, enc x, .int inner] L = .ok (enc (subS P f as l inner x)) (L ++ G)) ∧
    (∀ (x : T) (s : Slot) (inner : Nat) (ctx : List Slot) (L : LH) (p : Nat), okT P ctx s x → SlotOk P s → CtxOk cfg w P f as l N ctx → WAt L w P → PAt L p w f as l → 2 * td x + N ≤ n → ∃ G, run cfg n 36 [.ref p, .int s.2, enc x, .int inner] L = .ok (enc (subT P f as l s.2 inner x)) (L ++ G)) ∧
    (∀ (xs : List T) (sl : List Slot) (inner : Nat) (ctx : List Slot) (L : LH) (p : Nat), okTs P ctx sl xs → (∀ s ∈ sl, SlotOk P s) → sl.length ≤ 3 → CtxOk cfg w P f as l N ctx → WAt L w P → PAt L p w f as l → 2 * tds xs + N + 1 ≤ n → ∃ G, run cfg n 35 [.ref p, eSlots sl, .tup (encs xs), .int inner] L = .ok (.tup (encs (subTs P f as l sl inner xs))) (L ++ G))
  | 0 => ⟨fun x _ _ _ _ _ _ _ _ h => by have := td_pos x; omega, fun x _ _ _ _ _ _ _ _ _ _ h => by have := td_pos x; omega, fun _ _ _ _ _ _ _ _ _ _ _ _ h => by omega⟩
  | n + 1 => by
    obtain ⟨ihS, ihT, ihA⟩ := placing_ok W N n
    refine ⟨fun x inner ctx L p h hc hw hp hn => ?_, fun x s inner ctx L p h hs hc hw hp hn => ?_, fun xs sl inner ctx L p h hs hl hc hw hp hn => ?_⟩
    · have hp' := hp
      unfold PAt at hp'
      rw [run_succ, runDef_of B.d34 rfl]
      cases x with
      | cut t a c =>
        simp only [okS] at h
        obtain ⟨h1, h2, h3⟩ := h
        simp only [td] at hn
        obtain ⟨G1, e1⟩ := ihT a (true, t) inner ctx L p h2 h1 hc hw hp (by omega)
        obtain ⟨G2, e2⟩ := ihT c (false, t) inner ctx (L ++ G1) p h3 h1 hc hw.app hp.app (by omega)
        have hp2 := hp.app (G := G1)
        unfold PAt at hp2
        simp only at e1 e2
        exact ⟨G1 ++ G2, by simp [Lib.Placing_statement, enc, subS, hp', B.m2_25, e1, hp2, e2]⟩
      | call j xs =>
        simp only [okS] at h
        obtain ⟨h1, h2⟩ := h
        simp only [td] at hn
        obtain ⟨m, rfl⟩ : ∃ m, n = m + 1 := ⟨n - 1, by omega⟩
        have e0 := params_ok B (n := m) hw h1
        obtain ⟨G1, e1⟩ := ihA xs (P.params j) inner ctx L p h2 (W.par j) (W.pal j) hc hw hp (by omega)
        have hw' := hw
        unfold WAt at hw'
        exact ⟨G1, by simp [Lib.Placing_statement, enc, subS, hp', hw', B.m2_31, B.f2_15, B.m0_21, e0, e1]⟩
      | stop k => exact ⟨[], by simp [Lib.Placing_statement, enc, subS]⟩
      | _ => simp [okS] at h
    · have hp' := hp
      have hw' := hw
      unfold PAt at hp'
      unfold WAt at hw'
      rw [run_succ, runDef_of B.d36 rfl]
      cases x with
      | var k =>
        simp only [okT] at h
        simp only [td] at hn
        have hk : k < ctx.length := (List.getElem?_eq_some_iff.mp h).1
        obtain ⟨m, rfl⟩ : ∃ m, n = m + 1 := ⟨n - 1, by omega⟩
        by_cases c1 : k < f ∨ f + as.length ≤ k
        · have e := variable_out B (n := m) (t := s.2) (inner := inner) hp c1
          exact ⟨[], by simp [Lib.Placing_term, enc, subT, hp', B.m2_29, e]⟩
        · obtain ⟨i, rfl⟩ : ∃ i, k = f + i := ⟨k - f, by omega⟩
          obtain ⟨G1, e1⟩ := hc.arg i s (by omega) h inner L p (m + 1) hw hp (by omega)
          exact ⟨G1, by simp [Lib.Placing_term, enc, subT, hp', B.m2_29] at e1 ⊢; simp [e1]⟩
      | bind y =>
        simp only [okT] at h
        simp only [td] at hn
        obtain ⟨G1, e1⟩ := ihS y (inner + 1) _ L p h hc.app hw hp (by omega)
        rw [cast_succ] at e1
        exact ⟨G1, by simp [Lib.Placing_term, enc, subT, hp', B.m2_22, e1]⟩
      | make k xs =>
        simp only [okT] at h
        obtain ⟨h1, h2, h3⟩ := h
        simp only [td] at hn
        obtain ⟨m, rfl⟩ : ∃ m, n = m + 1 := ⟨n - 1, by omega⟩
        have e0 := shapes_ok B (n := m) hw hs
        obtain ⟨G1, e1⟩ := ihA xs (P.shape s.2 k) inner ctx L p h3 (W.shape) (W.shl s.2 k) hc hw hp (by omega)
        have at1 := P.shape_at h2
        exact ⟨G1, by simp [Lib.Placing_term, enc, subT, hp', hw', B.m2_31, B.f2_15, B.m0_11, e0, at1, e1]⟩
      | mtch ss =>
        simp only [okT] at h
        obtain ⟨h1, h2⟩ := h
        simp only [td] at hn
        have ll := okBs_len h2
        have l4 := W.shn s.2
        obtain ⟨m, rfl⟩ : ∃ m, n = m + 1 := ⟨n - 1, by omega⟩
        have e0 := shapes_ok B (n := m) hw hs
        obtain ⟨G1, q6, q7, e1⟩ := branches_loop B (n := m + 1) (inner := inner) (r1 := some (.int s.2)) (r2 := some (.tup [.str 13, .tup (encs ss)])) (r4 := some (.tup ((P.shapes s.2).map eSlots))) N (fun x i c L h1 h2 h3 h4 h5 => ihS x i c L p h1 h2 h3 h4 h5) hw hp rfl ss (P.shapes s.2) ctx [] [] none none h2 hc (by omega) (by simp; omega)
        refine ⟨.lst (encs (subBs P f as l (P.shapes s.2) inner ss)) :: G1, ?_⟩
        simp [Lib.Placing_term, enc, subT, hp', hw', B.f2_15, B.m0_11, e0]
        simp at e1
        simp [e1]
      | _ => simp [okT] at h
    · have ll := okTs_len h
      obtain ⟨G1, e1⟩ := allTerms_loop B (n := n) (p := p) (inner := inner) (r0 := some (.ref p)) (r1 := some (.tup (sl.map eSlot))) (r2 := some (.tup (encs xs))) (r3 := some (.int inner)) N (fun x s ctx L h1 h2 h3 h4 h5 h6 => ihT x s inner ctx L p h1 h2 h3 h4 h5 h6) rfl rfl xs sl ctx [] L h hs hc hw hp (by omega) (by simp; omega)
      rw [run_succ, runDef_of B.d35 rfl]
      refine ⟨G1 ++ [.lst (encs (subTs P f as l sl inner xs))], ?_⟩
      simp at e1
      simp [Lib.Placing_all_terms, eSlots, e1]
end
end Ap

end
section
set_option linter.all false
set_option maxRecDepth 100000
/-! put. -/
namespace Ap
open Ev
mutual
theorem relift {P : Prog} {b d : Nat} : ∀ (x : T) (s : Slot) (ctx : List Slot) (i : Nat), okT P ctx s x → subT P b [] (b + d) s.2 i x = lift b d x
  | .var k, s, ctx, i, _ => by
    simp only [subT, lift, subV]
    by_cases c : k < b
    · rw [if_pos c, if_neg (by omega)]
    · rw [if_neg c, if_pos (by omega)]
      simp
      omega
  | .bind x, s, ctx, i, h => by
    simp only [okT] at h
    simp only [subT, lift]
    rw [reliftS x _ _ h]
  | .make k xs, s, ctx, i, h => by
    simp only [okT] at h
    simp only [subT, lift]
    rw [reliftTs xs _ _ i h.2.2]
  | .mtch ss, s, ctx, i, h => by
    simp only [okT] at h
    simp only [subT, lift]
    rw [reliftBs ss _ _ i h.2]
  | .cut _ _ _, s, ctx, i, h => by simp [okT] at h
  | .call _ _, s, ctx, i, h => by simp [okT] at h
  | .stop _, s, ctx, i, h => by simp [okT] at h
theorem reliftS {P : Prog} {b d : Nat} : ∀ (x : T) (ctx : List Slot) (i : Nat), okS P ctx x → subS P b [] (b + d) i x = lift b d x
  | .cut t p c, ctx, i, h => by
    simp only [okS] at h
    simp only [subS, lift]
    rw [← relift p (true, t) ctx i h.2.1, ← relift c (false, t) ctx i h.2.2]
  | .call j xs, ctx, i, h => by
    simp only [okS] at h
    simp only [subS, lift]
    rw [reliftTs xs _ _ i h.2]
  | .stop k, ctx, i, h => by simp only [subS, lift]
  | .var _, ctx, i, h => by simp [okS] at h
  | .bind _, ctx, i, h => by simp [okS] at h
  | .make _ _, ctx, i, h => by simp [okS] at h
  | .mtch _, ctx, i, h => by simp [okS] at h
theorem reliftTs {P : Prog} {b d : Nat} : ∀ (xs : List T) (sl : List Slot) (ctx : List Slot) (i : Nat), okTs P ctx sl xs → subTs P b [] (b + d) sl i xs = lifts b d xs
  | [], sl, ctx, i, _ => by simp only [subTs, lifts]
  | x :: xs, sl, ctx, i, h => by
    simp only [okTs] at h
    obtain ⟨s, r, rfl, h1, h2⟩ := h
    simp only [subTs, lifts]
    rw [relift x s ctx i h1, reliftTs xs r ctx i h2]
theorem reliftBs {P : Prog} {b d : Nat} : ∀ (xs : List T) (sh : List (List Slot)) (ctx : List Slot) (i : Nat), okBs P ctx sh xs → subBs P b [] (b + d) sh i xs = lifts b d xs
  | [], sl, ctx, i, _ => by simp only [subBs, lifts]
  | x :: xs, sl, ctx, i, h => by
    simp only [okBs] at h
    obtain ⟨s, r, rfl, h1, h2⟩ := h
    simp only [subBs, lifts]
    rw [reliftS x _ _ h1, reliftBs xs r ctx i h2]
end
section
variable {cfg : Cfg} (B : Base cfg) {w : Nat} {P : Prog} {f : Nat} {as : List T} {l : Nat}
include B
theorem new_placing {n : Nat} {L : LH} {f l : Int} {ds : List D} : run cfg (n + 1) 32 [.ref L.length, .ref w, .int f, .tup ds, .int l] (L ++ [.ins 2 []]) = .ok .non (L ++ [.ins 2 [(15, .ref w), (26, .int f), (19, .tup ds), (27, .int l), (28, .int (f + (ds.length : Int)))]]) := by
  rw [run_succ, runDef_of B.d32 rfl]
  simp [Lib.Placing___init__, setFR, B.f2_15, B.f2_26, B.f2_19, B.f2_27, B.f2_28]
theorem ctx_nil {b N : Nat} {ctx : List Slot} (h : b ≤ ctx.length) : CtxOk cfg w P b [] l N ctx := ⟨by simpa using h, fun k s hk => by simp at hk⟩
/-- an argument stands as it must -/
theorem vok_of (W : PWf P) {k N : Nat} {a : T} {s : Slot} {ctx : List Slot} (ha : as[k]? = some a) (ht : okT P ctx s a) (hs : SlotOk P s) (hl : ctx.length = l) (hN : 2 * td a + 4 ≤ N) : VOk cfg w P f as l N k s.2 := by
  intro inner L p n hw hp hn
  obtain ⟨m, rfl⟩ : ∃ m, n = m + 3 := ⟨n - 3, by omega⟩
  have hp' := hp
  unfold PAt at hp'
  have hw' := hw
  unfold WAt at hw'
  have hk : k < as.length := (List.getElem?_eq_some_iff.mp ha).1
  have c1 : ¬ ((f : Int) + (as.length : Int) ≤ (f : Int) + (k : Int)) := by omega
  have c2 : ¬ ((f : Int) + (k : Int) < (f : Int)) := by omega
  have c3 : ¬ (f + k < f) := by omega
  have e1 : (f : Int) + (k : Int) - (f : Int) = (k : Int) := by omega
  have g : (encs as)[k]? = some (enc a) := by rw [encs_get, ha]; rfl
  rw [run_succ, runDef_of B.d33 rfl]
  by_cases hi : inner = 0
  · subst hi
    refine ⟨[], ?_⟩
    simp [Lib.Placing_variable, hp', B.f2_26, B.f2_28, B.f2_19, c1, c2, c3, e1, g, subV, ha]
  · have i0 : ¬ ((inner : Int) = 0) := by omega
    have nw := new_placing B (w := w) (n := m) (L := L) (f := (l : Int)) (l := (l : Int) + (inner : Int)) (ds := [])
    have pl : PAt (L ++ [.ins 2 [(15, .ref w), (26, .int l), (19, .tup []), (27, .int ((l : Int) + (inner : Int))), (28, .int ((l : Int) + (([] : List T).length : Int)))]]) L.length w l [] (l + inner) := by
      unfold PAt
      simp [encs]
    obtain ⟨G, e2⟩ := (placing_ok B (f := l) (as := []) (l := l + inner) W 1 (m + 2)).2.1 a s 0 ctx _ L.length ht hs (ctx_nil B (by omega)) hw.app pl (by omega)
    rw [relift a s ctx 0 ht] at e2
    refine ⟨.ins 2 [(15, .ref w), (26, .int l), (19, .tup []), (27, .int ((l : Int) + (inner : Int))), (28, .int (l : Int))] :: G, ?_⟩
    simp at e2 nw
    simp [Lib.Placing_variable, hp', B.f2_26, B.f2_28, B.f2_19, B.f2_15, B.f2_27, B.i2, c1, c2, e1, g, i0, ini_succ, nw, B.m2_25, e2, subV, ha, hi, c3]
/-- a context whose first slots are kept, then the arguments' slots -/
theorem ctx_of (W : PWf P) {N : Nat} {ctx sl : List Slot} (hl : ctx.length = l) (ha : okTs P ctx sl as) (hs : ∀ s ∈ sl, SlotOk P s) (hN : 2 * tds as + 4 ≤ N) : CtxOk cfg w P l as l N (ctx ++ sl) := by
  have ll := okTs_len ha
  refine ⟨by simp; omega, fun k s hk hc => ?_⟩
  rw [List.getElem?_append_right (by omega)] at hc
  have e : l + k - ctx.length = k := by omega
  rw [e] at hc
  have get : ∀ {xs : List T} {sl : List Slot} {k : Nat} {s : Slot}, okTs P ctx sl xs → sl[k]? = some s → ∃ a, xs[k]? = some a ∧ okT P ctx s a ∧ td a ≤ tds xs := by
    intro xs
    induction xs with
    | nil => intro sl k s h e; simp only [okTs] at h; subst h; simp at e
    | cons x xs ih =>
      intro sl k s h e
      simp only [okTs] at h
      obtain ⟨s0, r, rfl, h1, h2⟩ := h
      cases k with
      | zero => simp at e; subst e; exact ⟨x, rfl, h1, by simp only [tds]; omega⟩
      | succ k =>
        obtain ⟨a, q1, q2, q3⟩ := ih h2 (by simpa using e)
        exact ⟨a, by simpa using q1, q2, by simp only [tds]; omega⟩
  obtain ⟨a, q1, q2, q3⟩ := get ha hc
  exact vok_of B W q1 q2 (hs s (List.mem_of_getElem? hc)) hl (by omega)
theorem put_ok (W : PWf P) {n N : Nat} {x : T} {ctx : List Slot} {L : LH} (hx : okS P ctx x) (hc : CtxOk cfg w P f as l N ctx) (hw : WAt L w P) (hn : 2 * td x + N + 2 ≤ n) :
    ∃ G, run cfg n 37 [.ref w, enc x, .int f, .tup (encs as), .int l] L = .ok (enc (subS P f as l 0 x)) (L ++ G) := by
  obtain ⟨m, rfl⟩ : ∃ m, n = m + 3 := ⟨n - 3, by have := td_pos x; omega⟩
  rw [run_succ, runDef_of B.d37 rfl]
  have nw := new_placing B (w := w) (n := m) (L := L) (f := (f : Int)) (l := (l : Int)) (ds := encs as)
  have pl : PAt (L ++ [.ins 2 [(15, .ref w), (26, .int f), (19, .tup (encs as)), (27, .int l), (28, .int ((f : Int) + (((encs as).length : Nat) : Int)))]]) L.length w f as l := by
    unfold PAt
    simp [encs_length]
  obtain ⟨G, e2⟩ := (placing_ok B (f := f) (as := as) (l := l) W N (m + 2)).1 x 0 ctx _ L.length hx hc hw.app pl (by omega)
  refine ⟨.ins 2 [(15, .ref w), (26, .int f), (19, .tup (encs as)), (27, .int l), (28, .int ((f : Int) + (((encs as).length : Nat) : Int)))] :: G, ?_⟩
  simp at e2
  simp [Lib.put, B.i2, ini_succ, nw, B.m2_22, e2]
end
end Ap

end
section
set_option linter.all false
set_option maxRecDepth 100000
/-! The law's own lift, put and plainness. -/
namespace Ap
open Ev
mutual
/-- no row is long -/
def Wid : T → Prop
  | .var _ => True
  | .stop _ => True
  | .bind s => Wid s
  | .make _ as => as.length ≤ 4 ∧ Wids as
  | .mtch ss => ss.length ≤ 4 ∧ Wids ss
  | .cut _ p c => Wid p ∧ Wid c
  | .call _ as => as.length ≤ 4 ∧ Wids as
def Wids : List T → Prop
  | [] => True
  | x :: xs => Wid x ∧ Wids xs
end
mutual
theorem okT_wid {P : Prog} (W : PWf P) : ∀ (x : T) (s : Slot) (ctx : List Slot), okT P ctx s x → Wid x
  | .var k, s, ctx, _ => by simp only [Wid]
  | .bind x, s, ctx, h => by
    simp only [okT] at h
    simp only [Wid]
    exact okS_wid W x _ h
  | .make k xs, s, ctx, h => by
    simp only [okT] at h
    simp only [Wid]
    exact ⟨by have := okTs_len h.2.2; have := W.shl s.2 k; omega, okTs_wid W xs _ _ h.2.2⟩
  | .mtch ss, s, ctx, h => by
    simp only [okT] at h
    simp only [Wid]
    exact ⟨by have := okBs_len h.2; have := W.shn s.2; omega, okBs_wid W ss _ _ h.2⟩
  | .cut _ _ _, s, ctx, h => by simp [okT] at h
  | .call _ _, s, ctx, h => by simp [okT] at h
  | .stop _, s, ctx, h => by simp [okT] at h
theorem okS_wid {P : Prog} (W : PWf P) : ∀ (x : T) (ctx : List Slot), okS P ctx x → Wid x
  | .cut t p c, ctx, h => by
    simp only [okS] at h
    simp only [Wid]
    exact ⟨okT_wid W p _ _ h.2.1, okT_wid W c _ _ h.2.2⟩
  | .call j xs, ctx, h => by
    simp only [okS] at h
    simp only [Wid]
    exact ⟨by have := okTs_len h.2; have := W.pal j; omega, okTs_wid W xs _ _ h.2⟩
  | .stop k, ctx, h => by simp only [Wid]
  | .var _, ctx, h => by simp [okS] at h
  | .bind _, ctx, h => by simp [okS] at h
  | .make _ _, ctx, h => by simp [okS] at h
  | .mtch _, ctx, h => by simp [okS] at h
theorem okTs_wid {P : Prog} (W : PWf P) : ∀ (xs : List T) (sl : List Slot) (ctx : List Slot), okTs P ctx sl xs → Wids xs
  | [], sl, ctx, _ => by simp only [Wids]
  | x :: xs, sl, ctx, h => by
    simp only [okTs] at h
    obtain ⟨s, r, rfl, h1, h2⟩ := h
    simp only [Wids]
    exact ⟨okT_wid W x _ _ h1, okTs_wid W xs _ _ h2⟩
theorem okBs_wid {P : Prog} (W : PWf P) : ∀ (xs : List T) (sh : List (List Slot)) (ctx : List Slot), okBs P ctx sh xs → Wids xs
  | [], sl, ctx, _ => by simp only [Wids]
  | x :: xs, sl, ctx, h => by
    simp only [okBs] at h
    obtain ⟨s, r, rfl, h1, h2⟩ := h
    simp only [Wids]
    exact ⟨okS_wid W x _ h1, okBs_wid W xs _ _ h2⟩
end
mutual
theorem lift_zero {b : Nat} : ∀ x : T, lift b 0 x = x
  | .var k => by simp [lift]
  | .bind x => by simp only [lift]; rw [lift_zero x]
  | .make k xs => by simp only [lift]; rw [lifts_zero xs]
  | .mtch xs => by simp only [lift]; rw [lifts_zero xs]
  | .cut t p c => by simp only [lift]; rw [lift_zero p, lift_zero c]
  | .call j xs => by simp only [lift]; rw [lifts_zero xs]
  | .stop k => by simp only [lift]
theorem lifts_zero {b : Nat} : ∀ x : List T, lifts b 0 x = x
  | [] => by simp only [lifts]
  | x :: xs => by simp only [lifts]; rw [lift_zero x, lifts_zero xs]
end
theorem lifts_map {b d : Nat} : ∀ x : List T, lifts b d x = x.map (lift b d)
  | [] => rfl
  | x :: xs => by simp only [lifts, List.map_cons]; rw [lifts_map xs]
theorem wids_mem : ∀ {xs : List T} {x : T}, Wids xs → x ∈ xs → Wid x
  | y :: ys, x, h, m => by
    simp only [Wids] at h
    rcases List.mem_cons.mp m with rfl | m
    · exact h.1
    · exact wids_mem h.2 m
theorem tds_mem : ∀ {xs : List T} {x : T}, x ∈ xs → td x ≤ tds xs
  | y :: ys, x, m => by
    simp only [tds]
    rcases List.mem_cons.mp m with rfl | m
    · omega
    · have := tds_mem m; omega
/-- a comprehension that makes one thing of each -/
theorem loop_map {α : Type} {step : D → List D → LH → R (Step (List D) Unit)} {toD g : α → D} : ∀ {ks : List α}, (∀ k ∈ ks, ∀ (acc : List D) (L : LH), acc.length ≤ 1000 → ∃ G, step (toD k) acc L = .ok (.more (acc ++ [g k])) (L ++ G)) → ∀ (acc : List D) (L : LH), acc.length + ks.length ≤ 1000 →
    ∃ G, loopI step (ks.map toD) acc L = .ok (.more (acc ++ ks.map g)) (L ++ G)
  | [], h, acc, L, hl => ⟨[], by simp [loopI]⟩
  | k :: ks, h, acc, L, hl => by
    obtain ⟨G1, e1⟩ := h k List.mem_cons_self acc L (by simp at hl; omega)
    obtain ⟨G2, e2⟩ := loop_map (fun k m => h k (List.mem_cons_of_mem _ m)) (acc ++ [g k]) (L ++ G1) (by simp at hl ⊢; omega)
    refine ⟨G1 ++ G2, ?_⟩
    simp only [List.map_cons, loopI, e1, bind_ok, e2]
    simp
@[simp] theorem srcR_rng {L : LH} {j : Nat} (h : j ≤ 1000) : srcR .rng1 L [.int (j : Int)] = some (.items ((List.range j).map fun (i : Nat) => D.int (i : Int))) := by
  unfold srcR
  simp only
  rw [if_pos (by omega)]
  simp [rangeD]
@[simp] theorem inR_str2 {L : LH} {a b c : Nat} : inR L (.str a) (.tup [.str b, .str c]) = some (b == a || c == a) := by
  simp [inR, D.pure, D.pures, D.deps, D.dep, D.eqv]
section
variable {cfg : Cfg} (B : Base cfg) {P : Prog}
include B
theorem lift_ok {b d : Nat} : ∀ (n : Nat) (x : T) (L : LH), Wid x → td x ≤ n → ∃ G, run cfg n 154 [enc x, .int b, .int d] L = .ok (enc (lift b d x)) (L ++ G)
  | 0, x, L, _, h => by have := td_pos x; omega
  | n + 1, x, L, hx, hn => by
    have many : ∀ (xs : List T) (L : LH) (r3 r5 r6 : Option D) (r0 : D), Wids xs → tds xs ≤ n → xs.length ≤ 4 → ∃ G, loopI (turnC cfg (run cfg n) (calls cfg n).2 (.name 4) [4] [] (.call 154 [.var 4, .var 1, .var 2]) [some r0, some (.int b), some (.int d), r3, none, r5]) (encs xs) [] L = .ok (.more (encs (lifts b d xs))) (L ++ G) := by
      intro xs L r3 r5 r6 r0 hw ht hl
      obtain ⟨G, e⟩ := loop_map (step := turnC cfg (run cfg n) (calls cfg n).2 (.name 4) [4] [] (.call 154 [.var 4, .var 1, .var 2]) [some r0, some (.int b), some (.int d), r3, none, r5]) (toD := enc) (g := fun x => enc (lift b d x)) (ks := xs) (fun x m acc L ha => by
        obtain ⟨G, e⟩ := lift_ok (b := b) (d := d) n x L (wids_mem hw m) (by have := tds_mem m; omega)
        have hm : acc.length < most := by unfold most; omega
        exact ⟨G, by simp [turnC_def, e, hm]⟩) [] L (by simp; omega)
      refine ⟨G, ?_⟩
      rw [encs_map, e, encs_map, lifts_map]
      simp
    have many2 : ∀ (xs : List T) (L : LH) (r3 r4 : Option D) (r0 : D), Wids xs → tds xs ≤ n → xs.length ≤ 4 → ∃ G, loopI (turnC cfg (run cfg n) (calls cfg n).2 (.name 5) [5] [] (.call 154 [.var 5, .var 1, .var 2]) [some r0, some (.int b), some (.int d), r3, r4, none]) (encs xs) [] L = .ok (.more (encs (lifts b d xs))) (L ++ G) := by
      intro xs L r3 r4 r0 hw ht hl
      obtain ⟨G, e⟩ := loop_map (step := turnC cfg (run cfg n) (calls cfg n).2 (.name 5) [5] [] (.call 154 [.var 5, .var 1, .var 2]) [some r0, some (.int b), some (.int d), r3, r4, none]) (toD := enc) (g := fun x => enc (lift b d x)) (ks := xs) (fun x m acc L ha => by
        obtain ⟨G, e⟩ := lift_ok (b := b) (d := d) n x L (wids_mem hw m) (by have := tds_mem m; omega)
        have hm : acc.length < most := by unfold most; omega
        exact ⟨G, by simp [turnC_def, e, hm]⟩) [] L (by simp; omega)
      refine ⟨G, ?_⟩
      rw [encs_map, e, encs_map, lifts_map]
      simp
    rw [run_succ, runDef_of B.d154 rfl]
    cases x with
    | var k =>
      refine ⟨[], ?_⟩
      by_cases c : b ≤ k
      · have c' : (b : Int) ≤ (k : Int) := by omega
        simp [Lib._law_lift, enc, lift, c]
      · have c' : ¬ (b : Int) ≤ (k : Int) := by omega
        simp [Lib._law_lift, enc, lift, c]
    | stop k => exact ⟨[], by simp [Lib._law_lift, enc, lift]⟩
    | bind y =>
      simp only [Wid] at hx
      simp only [td] at hn
      obtain ⟨G, e⟩ := lift_ok (b := b) (d := d) n y L hx (by omega)
      exact ⟨G, by simp [Lib._law_lift, enc, lift, e]⟩
    | cut t p c =>
      simp only [Wid] at hx
      simp only [td] at hn
      obtain ⟨G1, e1⟩ := lift_ok (b := b) (d := d) n p L hx.1 (by omega)
      obtain ⟨G2, e2⟩ := lift_ok (b := b) (d := d) n c (L ++ G1) hx.2 (by omega)
      exact ⟨G1 ++ G2, by simp [Lib._law_lift, enc, lift, e1, e2]⟩
    | mtch xs =>
      simp only [Wid] at hx
      simp only [td] at hn
      obtain ⟨G, e⟩ := many xs L (some (.str 13)) none none (.tup [.str 13, .tup (encs xs)]) hx.2 (by omega) hx.1
      refine ⟨G ++ [.lst (encs (lifts b d xs))], ?_⟩
      simp [Lib._law_lift, enc, lift, e]
    | make h xs =>
      simp only [Wid] at hx
      simp only [td] at hn
      obtain ⟨G, e⟩ := many2 xs L (some (.str 6)) none (.tup [.str 6, .int h, .tup (encs xs)]) hx.2 (by omega) hx.1
      refine ⟨G ++ [.lst (encs (lifts b d xs))], ?_⟩
      simp [Lib._law_lift, enc, lift, e]
    | call h xs =>
      simp only [Wid] at hx
      simp only [td] at hn
      obtain ⟨G, e⟩ := many2 xs L (some (.str 12)) none (.tup [.str 12, .int h, .tup (encs xs)]) hx.2 (by omega) hx.1
      refine ⟨G ++ [.lst (encs (lifts b d xs))], ?_⟩
      simp [Lib._law_lift, enc, lift, e]
end
end Ap

end
section
set_option linter.all false
set_option maxRecDepth 100000
set_option maxHeartbeats 1000000
/-! The law's plainness and put. -/
namespace Ap
open Ev
/-- what is made of the k-th of two rows -/
def pick {α β γ : Type} (F : α → β → γ) (z : γ) (l : List α) (m : List β) (k : Nat) : γ := match l[k]?, m[k]? with
  | some a, some b => F a b
  | _, _ => z
theorem pick_all {α β γ : Type} (F : α → β → γ) (z : γ) : ∀ (l : List α) (m : List β), l.length = m.length → (List.range l.length).map (pick F z l m) = List.zipWith F l m
  | [], m, h => by simp
  | a :: l, [], h => by simp at h
  | a :: l, b :: m, h => by
    rw [List.length_cons, List.range_succ_eq_map, List.map_cons, List.map_map, List.zipWith_cons_cons, ← pick_all F z l m (by simpa using h)]
    rfl
theorem okTs_get {P : Prog} {ctx : List Slot} : ∀ {xs : List T} {sl : List Slot} {k : Nat}, okTs P ctx sl xs → k < sl.length → ∃ s x, sl[k]? = some s ∧ xs[k]? = some x ∧ okT P ctx s x ∧ td x ≤ tds xs
  | [], sl, k, h, hk => by simp only [okTs] at h; subst h; simp at hk
  | x :: xs, sl, k, h, hk => by
    simp only [okTs] at h
    obtain ⟨s, r, rfl, h1, h2⟩ := h
    cases k with
    | zero => exact ⟨s, x, rfl, rfl, h1, by simp only [tds]; omega⟩
    | succ k =>
      obtain ⟨s', x', q1, q2, q3, q4⟩ := okTs_get h2 (by simpa using hk)
      exact ⟨s', x', by simpa using q1, by simpa using q2, q3, by simp only [tds]; omega⟩
theorem okBs_get {P : Prog} {ctx : List Slot} : ∀ {xs : List T} {sh : List (List Slot)} {k : Nat}, okBs P ctx sh xs → k < sh.length → ∃ s x, sh[k]? = some s ∧ xs[k]? = some x ∧ okS P (ctx ++ s) x ∧ td x ≤ tds xs
  | [], sl, k, h, hk => by simp only [okBs] at h; subst h; simp at hk
  | x :: xs, sl, k, h, hk => by
    simp only [okBs] at h
    obtain ⟨s, r, rfl, h1, h2⟩ := h
    cases k with
    | zero => exact ⟨s, x, rfl, rfl, h1, by simp only [tds]; omega⟩
    | succ k =>
      obtain ⟨s', x', q1, q2, q3, q4⟩ := okBs_get h2 (by simpa using hk)
      exact ⟨s', x', by simpa using q1, by simpa using q2, q3, by simp only [tds]; omega⟩
theorem arePlain_zip {P : Prog} : ∀ (sl : List Slot) (xs : List T), arePlain P sl xs = (List.zipWith (isPlain P) sl xs).all (·)
  | [], xs => by cases xs <;> simp [arePlain]
  | s :: r, [] => by simp [arePlain]
  | s :: r, x :: xs => by simp [arePlain, arePlain_zip r xs]
theorem subTs_zip {P : Prog} {f l i : Nat} {as : List T} : ∀ (sl : List Slot) (xs : List T), subTs P f as l sl i xs = List.zipWith (fun s x => subT P f as l s.2 i x) sl xs
  | [], xs => by cases xs <;> simp [subTs]
  | s :: r, [] => by simp [subTs]
  | s :: r, x :: xs => by simp [subTs, subTs_zip r xs]
theorem subBs_zip {P : Prog} {f l i : Nat} {as : List T} : ∀ (sh : List (List Slot)) (xs : List T), subBs P f as l sh i xs = List.zipWith (fun s x => subS P f as l (i + s.length) x) sh xs
  | [], xs => by cases xs <;> simp [subBs]
  | s :: r, [] => by simp [subBs]
  | s :: r, x :: xs => by simp [subBs, subBs_zip r xs]
theorem pures_bl : ∀ bs : List Bool, D.pures (bs.map D.bl) = true ∧ D.deps (bs.map D.bl) ≤ 1
  | [] => by simp [D.pures, D.deps]
  | b :: bs => by
    obtain ⟨h1, h2⟩ := pures_bl bs
    simp only [List.map_cons, D.pures, D.deps, D.pure, D.dep, h1]
    exact ⟨rfl, by omega⟩
theorem inR_false {L : LH} {n : Nat} {bs : List Bool} (h : L[n]? = some (.lst (bs.map D.bl))) : inR L (.bl false) (.ref n) = some (!bs.all (·)) := by
  obtain ⟨h1, h2⟩ := pures_bl bs
  have e : (bs.map D.bl).any (fun x => x.eqv (.bl false)) = !bs.all (·) := by
    clear h h1 h2
    induction bs with
    | nil => rfl
    | cons b bs ih =>
      simp only [List.map_cons, List.any_cons, List.all_cons, ih, D.eqv]
      cases b <;> simp
  unfold inR
  simp only [h]
  rw [if_pos (by simp [D.pure, h1]; omega), e]
section
variable {cfg : Cfg} (B : Base cfg) {P : Prog}
include B
theorem lmaking_ok {n t : Nat} {L : LH} (ht : t < P.decls.length) : run cfg (n + 1) 135 [eProg P, .int t] L = .ok (eSide (P.makes t)) L := by
  obtain ⟨d, hd⟩ : ∃ d, P.decls[t]? = some d := ⟨_, List.getElem?_eq_getElem ht⟩
  have hm : P.makes t = d.1 := by unfold Prog.makes; rw [hd]
  rw [run_succ, runDef_of B.d135 rfl]
  simp [Lib._law_making, eProg, eDecls, hd, eDecl, hm]
  cases d.1 <;> simp [eSide]
theorem prog_shapes {t : Nat} (ht : t < P.decls.length) : ∃ d, P.decls[t]? = some d ∧ d.2 = P.shapes t := by
  refine ⟨_, List.getElem?_eq_getElem ht, ?_⟩
  unfold Prog.shapes
  rw [List.getElem?_eq_getElem ht]
theorem prog_params {j : Nat} (hj : j < P.defs.length) : ∃ d, P.defs[j]? = some d ∧ d.1 = P.params j ∧ d.2 = P.body j := by
  refine ⟨_, List.getElem?_eq_getElem hj, ?_, ?_⟩
  · unfold Prog.params
    rw [List.getElem?_eq_getElem hj]
  · unfold Prog.body
    rw [List.getElem?_eq_getElem hj]
/-- the law's comprehension over a row of slots and a row of terms -/
theorem plain_row {n : Nat} {ρ : Env} {sl : List Slot} {xs : List T} {ctx : List Slot} {i : Nat} {e : E} {own : List Nat} (hl : sl.length ≤ 3) (h : okTs P ctx sl xs)
    (st : ∀ (k : Nat) (s : Slot) (x : T) (acc : List D) (L : LH), sl[k]? = some s → xs[k]? = some x → okT P ctx s x → td x ≤ tds xs → acc.length < most → ∃ G, turnC cfg (run cfg n) (calls cfg n).2 (.name i) own [] e ρ (.int (k : Int)) acc L = .ok (.more (acc ++ [.bl (isPlain P s x)])) (L ++ G)) (L : LH) :
    ∃ G, loopI (turnC cfg (run cfg n) (calls cfg n).2 (.name i) own [] e ρ) ((List.range sl.length).map fun (k : Nat) => D.int (k : Int)) [] L = .ok (.more ((List.zipWith (isPlain P) sl xs).map D.bl)) (L ++ G) := by
  have ll := okTs_len h
  obtain ⟨G, e⟩ := loop_map (step := turnC cfg (run cfg n) (calls cfg n).2 (.name i) own [] e ρ) (toD := fun (k : Nat) => D.int (k : Int)) (g := pick (fun s x => D.bl (isPlain P s x)) .non sl xs) (ks := List.range sl.length) (fun k hk acc L ha => by
    obtain ⟨s, x, q1, q2, q3, q4⟩ := okTs_get h (List.mem_range.mp hk)
    obtain ⟨G, e⟩ := st k s x acc L q1 q2 q3 q4 (by unfold most; omega)
    exact ⟨G, by rw [e]; simp [pick, q1, q2]⟩) [] L (by simp; omega)
  rw [pick_all _ _ _ _ (by omega)] at e
  refine ⟨G, ?_⟩
  rw [e, List.map_zipWith]
  rfl
theorem lplain_ok (W : PWf P) : ∀ (n : Nat), (∀ (x : T) (s : Slot) (ctx : List Slot) (L : LH), okT P ctx s x → SlotOk P s → td x + 1 ≤ n → ∃ G, run cfg n 157 [eProg P, eSlot s, enc x] L = .ok (.bl (isPlain P s x)) (L ++ G)) := by
  intro n
  induction n with
  | zero =>
    intro x s ctx L _ _ h
    omega
  | succ n ih =>
    intro x s ctx L hx hs hn
    obtain ⟨m, rfl⟩ : ∃ m, n = m + 1 := ⟨n - 1, by have := td_pos x; omega⟩
    rw [run_succ, runDef_of B.d157 rfl]
    cases x with
    | var k => exact ⟨[], by simp [Lib._law_is_plain2, enc, isPlain]⟩
    | bind y =>
      have mk := lmaking_ok B (n := m) (L := L) hs
      refine ⟨[], ?_⟩
      simp [Lib._law_is_plain2, enc, isPlain, eSlot, mk]
      cases s.1 <;> cases P.makes s.2 <;> simp [eSide]
    | mtch ss => exact ⟨[], by simp [Lib._law_is_plain2, enc, isPlain]⟩
    | make k xs =>
      simp only [okT] at hx
      obtain ⟨h1, h2, h3⟩ := hx
      simp only [td] at hn
      obtain ⟨d, hd, e2⟩ := prog_shapes B hs
      have sh := P.shape_at h2
      obtain ⟨G, e⟩ := plain_row B (n := m + 1) (ρ := [some (eProg P), some (eSlot s), some (.tup [.str 6, .int k, .tup (encs xs)]), some (.tup ((P.shape s.2 k).map eSlot)), none]) (i := 4) (own := [4]) (e := .call 157 [.var 0, .idx (.var 3) (.var 4), .idx (.idx (.var 2) (.int 2)) (.var 4)]) (W.shl s.2 k) h3 (fun i s' x' acc L q1 q2 q3 q4 hm => by
        obtain ⟨G, e⟩ := ih x' s' ctx L q3 (W.shape s' (List.mem_of_getElem? q1)) (by omega)
        exact ⟨G, by simp [turnC_def, q1, encs_get, q2, e, hm]⟩) L
      have l3 := W.shl s.2 k
      refine ⟨G ++ [.lst ((List.zipWith (isPlain P) (P.shape s.2 k) xs).map D.bl)], ?_⟩
      have fin := inR_false (L := (L ++ G) ++ [.lst ((List.zipWith (isPlain P) (P.shape s.2 k) xs).map D.bl)]) (n := (L ++ G).length) (bs := List.zipWith (isPlain P) (P.shape s.2 k) xs) (by simp)
      rw [← arePlain_zip] at fin
      have src : srcR .rng1 L [.int ((P.shape s.2 k).length : Int)] = _ := srcR_rng (by omega)
      generalize (List.zipWith (isPlain P) (P.shape s.2 k) xs).map D.bl = bl at e fin ⊢
      simp [Lib._law_is_plain2, enc, isPlain, eSlot, eProg, eDecls, hd, eDecl, e2, sh, eSlots, src] at e ⊢
      simp at fin
      simp [e, fin]
    | _ => simp [okT] at hx
theorem lplains_ok (W : PWf P) {n : Nat} {xs : List T} {sl ctx : List Slot} {L : LH} (hl : sl.length ≤ 3) (h : okTs P ctx sl xs) (hs : ∀ s ∈ sl, SlotOk P s) (hn : tds xs + 2 ≤ n) : ∃ G, run cfg n 158 [eProg P, eSlots sl, .tup (encs xs)] L = .ok (.bl (arePlain P sl xs)) (L ++ G) := by
  obtain ⟨m, rfl⟩ : ∃ m, n = m + 1 := ⟨n - 1, by omega⟩
  rw [run_succ, runDef_of B.d158 rfl]
  obtain ⟨G, e⟩ := plain_row B (n := m) (ρ := [some (eProg P), some (.tup (sl.map eSlot)), some (.tup (encs xs)), none]) (i := 3) (own := [3]) (e := .call 157 [.var 0, .idx (.var 1) (.var 3), .idx (.var 2) (.var 3)]) hl h (fun i s' x' acc L q1 q2 q3 q4 hm => by
    obtain ⟨G, e⟩ := lplain_ok B W m x' s' ctx L q3 (hs s' (List.mem_of_getElem? q1)) (by omega)
    exact ⟨G, by simp [turnC_def, q1, encs_get, q2, e, hm]⟩) L
  refine ⟨G ++ [.lst ((List.zipWith (isPlain P) sl xs).map D.bl)], ?_⟩
  have fin := inR_false (L := (L ++ G) ++ [.lst ((List.zipWith (isPlain P) sl xs).map D.bl)]) (n := (L ++ G).length) (bs := List.zipWith (isPlain P) sl xs) (by simp)
  rw [← arePlain_zip] at fin
  have src : srcR .rng1 L [.int (sl.length : Int)] = _ := srcR_rng (by omega)
  generalize (List.zipWith (isPlain P) sl xs).map D.bl = bl at e fin ⊢
  simp at fin
  simp [Lib._law_are_plain2, eSlots, src, e, fin]
theorem lsides_ok {n t : Nat} {p c : T} {L : LH} (ht : t < P.decls.length) : run cfg (n + 2) 160 [eProg P, enc (.cut t p c)] L = .ok (.tup [enc (P.sides t p c).1, enc (P.sides t p c).2]) L := by
  have hm := lmaking_ok B (n := n) (L := L) ht
  rw [run_succ, runDef_of B.d160 rfl]
  unfold Prog.sides
  rcases Bool.eq_false_or_eq_true (P.makes t) with hp | hp <;> rw [hp] at hm <;> simp [Lib._law_sides, enc, hm, eSide, hp]
/-! ### put -/
/-- the k-th argument is lifted as it must be -/
structure LArgs (P : Prog) (keep : Nat) (as : List T) (ctx : List Slot) (N : Nat) : Prop where
  wid : ∀ a ∈ as, Wid a ∧ td a ≤ N
  len : as.length ≤ 4
omit B in
theorem subV_lift {f l i k : Nat} {as : List T} : subV f as l i k = if k < f then .var k else match as[k - f]? with
  | some a => lift l i a
  | none => .var (k - (f + as.length) + l) := by
  unfold subV
  split
  · rfl
  · cases as[k - f]? with
    | none => rfl
    | some a =>
      simp only
      split
      · rename_i h; subst h; rw [lift_zero]
      · rfl
/-- the statement's part of put, the terms' part being known -/
theorem lput_s (W : PWf P) {keep l N n : Nat} {as : List T} {z : Int} {i : Nat}
    (ihT : ∀ (x : T) (s : Slot) (ctx : List Slot) (L : LH), okT P ctx s x → SlotOk P s → td x + N + 1 ≤ n → ∃ G, run cfg n 156 [eProg P, .int s.2, enc x, .int z, .int keep, .tup (encs as), .int l] L = .ok (enc (subT P keep as l s.2 i x)) (L ++ G))
    (x : T) (ctx : List Slot) (L : LH) (hx : okS P ctx x) (hn : td x + N + 1 ≤ n + 1) : ∃ G, run cfg (n + 1) 155 [eProg P, enc x, .int z, .int keep, .tup (encs as), .int l] L = .ok (enc (subS P keep as l i x)) (L ++ G) := by
  rw [run_succ, runDef_of B.d155 rfl]
  cases x with
  | stop k => exact ⟨[], by simp [Lib._law_put, enc, subS]⟩
  | cut t p c =>
    simp only [okS] at hx
    obtain ⟨h1, h2, h3⟩ := hx
    simp only [td] at hn
    obtain ⟨G1, e1⟩ := ihT p (true, t) ctx L h2 h1 (by omega)
    obtain ⟨G2, e2⟩ := ihT c (false, t) ctx (L ++ G1) h3 h1 (by omega)
    simp only at e1 e2
    exact ⟨G1 ++ G2, by simp [Lib._law_put, enc, subS, e1, e2]⟩
  | call j xs =>
    simp only [okS] at hx
    obtain ⟨h1, h2⟩ := hx
    simp only [td] at hn
    obtain ⟨d, hd, e0, _⟩ := prog_params B h1
    have ll := okTs_len h2
    have l3 := W.pal j
    obtain ⟨G, e⟩ := loop_map (step := turnC cfg (run cfg n) (calls cfg n).2 (.name 7) [7] [] (.call 156 [.var 0, .idx (.idx (.var 6) (.var 7)) (.int 1), .idx (.idx (.var 1) (.int 2)) (.var 7), .var 2, .var 3, .var 4, .var 5]) [some (eProg P), some (enc (.call j xs)), some (.int z), some (.int keep), some (.tup (encs as)), some (.int l), some (.tup ((P.params j).map eSlot)), none]) (toD := fun (k : Nat) => D.int (k : Int))
      (g := pick (fun s x => enc (subT P keep as l s.2 i x)) .non (P.params j) xs) (ks := List.range (P.params j).length) (fun k hk acc L ha => by
        obtain ⟨s, x, q1, q2, q3, q4⟩ := okTs_get h2 (List.mem_range.mp hk)
        obtain ⟨G, e⟩ := ihT x s ctx L q3 (W.par j s (List.mem_of_getElem? q1)) (by omega)
        have hm : acc.length < most := by unfold most; omega
        exact ⟨G, by simp [turnC_def, enc, eSlot, q1, encs_get, q2, e, hm, pick]⟩) [] L (by simp; omega)
    rw [pick_all _ _ _ _ (by omega)] at e
    have e3 : List.zipWith (fun s x => enc (subT P keep as l s.2 i x)) (P.params j) xs = encs (subTs P keep as l (P.params j) i xs) := by rw [encs_map, subTs_zip, List.map_zipWith]
    rw [e3] at e
    have src : srcR .rng1 L [.int ((P.params j).length : Int)] = _ := srcR_rng (by omega)
    refine ⟨G ++ [.lst (encs (subTs P keep as l (P.params j) i xs))], ?_⟩
    simp [enc] at e
    simp [Lib._law_put, enc, subS, eProg, eDefs, hd, eDef, e0, eSlots, src] at e ⊢
    simp [e]
  | _ => simp [okS] at hx
/-- the terms' part -/
theorem lput_t (W : PWf P) {keep l N n : Nat} {as : List T} (hw : ∀ a ∈ as, Wid a ∧ td a ≤ N) {z : Int} {i : Nat} (hz : z = keep + as.length + i)
    (ihS : ∀ (x : T) (z : Int) (i : Nat) (ctx : List Slot) (L : LH), z = keep + as.length + i → okS P ctx x → td x + N + 1 ≤ n → ∃ G, run cfg n 155 [eProg P, enc x, .int z, .int keep, .tup (encs as), .int l] L = .ok (enc (subS P keep as l i x)) (L ++ G))
    (ihT : ∀ (x : T) (s : Slot) (ctx : List Slot) (L : LH), okT P ctx s x → SlotOk P s → td x + N + 1 ≤ n → ∃ G, run cfg n 156 [eProg P, .int s.2, enc x, .int z, .int keep, .tup (encs as), .int l] L = .ok (enc (subT P keep as l s.2 i x)) (L ++ G))
    (x : T) (s : Slot) (ctx : List Slot) (L : LH) (hx : okT P ctx s x) (hs : SlotOk P s) (hn : td x + N + 1 ≤ n + 1) : ∃ G, run cfg (n + 1) 156 [eProg P, .int s.2, enc x, .int z, .int keep, .tup (encs as), .int l] L = .ok (enc (subT P keep as l s.2 i x)) (L ++ G) := by
  rw [run_succ, runDef_of B.d156 rfl]
  obtain ⟨d, hd, e0⟩ := prog_shapes B hs
  cases x with
  | var k =>
    simp only [td] at hn
    simp only [subT, subV_lift]
    by_cases c1 : k < keep
    · exact ⟨[], by simp [Lib._law_put_term, enc, c1]⟩
    · obtain ⟨q, rfl⟩ : ∃ q, k = keep + q := ⟨k - keep, by omega⟩
      have c0 : ¬ ((keep : Int) + (q : Int) < (keep : Int)) := by omega
      by_cases c2 : q < as.length
      · have g1 : as[q]? = some as[q] := List.getElem?_eq_getElem c2
        have g2 : (encs as)[q]'(by rw [encs_length]; exact c2) = enc as[q] := by simp [encs_map]
        obtain ⟨w1, w2⟩ := hw as[q] (List.getElem_mem c2)
        obtain ⟨G, e⟩ := lift_ok B (b := l) (d := i) n as[q] L w1 (by omega)
        have hi : z - (keep : Int) - (as.length : Int) = i := by omega
        have e5 : ((keep : Int) + (q : Int)) - (keep : Int) = (q : Int) := by omega
        exact ⟨G, by simp [Lib._law_put_term, enc, encs_length, c0, c1, c2, e5, hi, g1, g2, e]⟩
      · have g1 : as[q]? = none := List.getElem?_eq_none (by omega)
        have c3 : ¬ ((keep : Int) + (q : Int) < (keep : Int) + (as.length : Int)) := by omega
        have e5 : (((keep + q) - (keep + as.length) + l : Nat) : Int) = (keep : Int) + (q : Int) - (keep : Int) - (as.length : Int) + (l : Int) := by omega
        refine ⟨[], ?_⟩
        have c4 : ¬ (keep + q < keep) := by omega
        simp only [Nat.add_sub_cancel_left, g1, if_neg c4, enc, e5]
        simp [Lib._law_put_term, encs_length, c0, c2]
  | bind y =>
    simp only [okT] at hx
    simp only [td] at hn
    obtain ⟨G, e⟩ := ihS y (z + 1) (i + 1) _ L (by omega) hx (by omega)
    exact ⟨G, by simp [Lib._law_put_term, enc, subT, e]⟩
  | make k xs =>
    simp only [okT] at hx
    obtain ⟨h1, h2, h3⟩ := hx
    simp only [td] at hn
    have ll := okTs_len h3
    have l3 := W.shl s.2 k
    have sh := P.shape_at h2
    obtain ⟨G, e⟩ := loop_map (step := turnC cfg (run cfg n) (calls cfg n).2 (.name 9) [9] [] (.call 156 [.var 0, .idx (.idx (.var 8) (.var 9)) (.int 1), .idx (.idx (.var 2) (.int 2)) (.var 9), .var 3, .var 4, .var 5, .var 6]) [some (eProg P), some (.int s.2), some (enc (.make k xs)), some (.int z), some (.int keep), some (.tup (encs as)), some (.int l), some (.tup ((P.shapes s.2).map eSlots)), some (.tup ((P.shape s.2 k).map eSlot)), none, none]) (toD := fun (k : Nat) => D.int (k : Int))
      (g := pick (fun s x => enc (subT P keep as l s.2 i x)) .non (P.shape s.2 k) xs) (ks := List.range (P.shape s.2 k).length) (fun q hk acc L ha => by
        obtain ⟨s', x, q1, q2, q3, q4⟩ := okTs_get h3 (List.mem_range.mp hk)
        obtain ⟨G, e⟩ := ihT x s' ctx L q3 (W.shape s' (List.mem_of_getElem? q1)) (by omega)
        have hm : acc.length < most := by unfold most; omega
        exact ⟨G, by simp [turnC_def, enc, eSlot, q1, encs_get, q2, e, hm, pick]⟩) [] L (by simp; omega)
    rw [pick_all _ _ _ _ (by omega)] at e
    have e3 : List.zipWith (fun s x => enc (subT P keep as l s.2 i x)) (P.shape s.2 k) xs = encs (subTs P keep as l (P.shape s.2 k) i xs) := by rw [encs_map, subTs_zip, List.map_zipWith]
    rw [e3] at e
    have src : srcR .rng1 L [.int ((P.shape s.2 k).length : Int)] = _ := srcR_rng (by omega)
    refine ⟨G ++ [.lst (encs (subTs P keep as l (P.shape s.2 k) i xs))], ?_⟩
    simp [enc] at e
    simp [Lib._law_put_term, enc, subT, eProg, eDecls, hd, eDecl, e0, sh, eSlots, src] at e ⊢
    simp [e]
  | mtch ss =>
    simp only [okT] at hx
    obtain ⟨h1, h2⟩ := hx
    simp only [td] at hn
    have ll := okBs_len h2
    have l4 := W.shn s.2
    obtain ⟨G, e⟩ := loop_map (step := turnC cfg (run cfg n) (calls cfg n).2 (.name 10) [10] [] (.call 155 [.var 0, .idx (.idx (.var 2) (.int 1)) (.var 10), .bin .add (.var 3) (.bf .len [.idx (.var 7) (.var 10)]), .var 4, .var 5, .var 6]) [some (eProg P), some (.int s.2), some (enc (.mtch ss)), some (.int z), some (.int keep), some (.tup (encs as)), some (.int l), some (.tup ((P.shapes s.2).map eSlots)), none, none, none]) (toD := fun (k : Nat) => D.int (k : Int))
      (g := pick (fun s x => enc (subS P keep as l (i + s.length) x)) .non (P.shapes s.2) ss) (ks := List.range (P.shapes s.2).length) (fun q hk acc L ha => by
        obtain ⟨s', x, q1, q2, q3, q4⟩ := okBs_get h2 (List.mem_range.mp hk)
        obtain ⟨G, e⟩ := ihS x (z + s'.length) (i + s'.length) _ L (by omega) q3 (by omega)
        have hm : acc.length < most := by unfold most; omega
        exact ⟨G, by simp [turnC_def, enc, eSlots, q1, encs_get, q2, e, hm, pick]⟩) [] L (by simp; omega)
    rw [pick_all _ _ _ _ (by omega)] at e
    have e3 : List.zipWith (fun (s : List Slot) x => enc (subS P keep as l (i + s.length) x)) (P.shapes s.2) ss = encs (subBs P keep as l (P.shapes s.2) i ss) := by rw [encs_map, subBs_zip, List.map_zipWith]
    rw [e3] at e
    have src : srcR .rng1 L [.int ((P.shapes s.2).length : Int)] = _ := srcR_rng (by omega)
    refine ⟨G ++ [.lst (encs (subBs P keep as l (P.shapes s.2) i ss))], ?_⟩
    simp [enc] at e
    simp [Lib._law_put_term, enc, subT, eProg, eDecls, hd, eDecl, e0, src] at e ⊢
    simp [e]
  | _ => simp [okT] at hx
theorem lput_ok (W : PWf P) {keep l N : Nat} {as : List T} (hw : ∀ a ∈ as, Wid a ∧ td a ≤ N) : ∀ (n : Nat),
    (∀ (x : T) (z : Int) (i : Nat) (ctx : List Slot) (L : LH), z = keep + as.length + i → okS P ctx x → td x + N + 1 ≤ n → ∃ G, run cfg n 155 [eProg P, enc x, .int z, .int keep, .tup (encs as), .int l] L = .ok (enc (subS P keep as l i x)) (L ++ G)) ∧
    (∀ (x : T) (s : Slot) (z : Int) (i : Nat) (ctx : List Slot) (L : LH), z = keep + as.length + i → okT P ctx s x → SlotOk P s → td x + N + 1 ≤ n → ∃ G, run cfg n 156 [eProg P, .int s.2, enc x, .int z, .int keep, .tup (encs as), .int l] L = .ok (enc (subT P keep as l s.2 i x)) (L ++ G)) := by
  intro n
  induction n with
  | zero => exact ⟨fun x z i ctx L _ _ h => by omega, fun x s z i ctx L _ _ _ h => by omega⟩
  | succ n ih =>
    obtain ⟨ihS, ihT⟩ := ih
    exact ⟨fun x z i ctx L hz hx hn => lput_s B W (fun x s ctx L h1 h2 h3 => ihT x s z i ctx L hz h1 h2 h3) x ctx L hx hn,
      fun x s z i ctx L hz hx hs hn => lput_t B W hw hz (fun x z i ctx L h0 h1 h2 => ihS x z i ctx L h0 h1 h2) (fun x s ctx L h1 h2 h3 => ihT x s z i ctx L hz h1 h2 h3) x s ctx L hx hs hn⟩
end
end Ap

end
section
set_option linter.all false
set_option maxRecDepth 100000
set_option maxHeartbeats 1000000
/-! The law's pull. -/
namespace Ap
open Ev
mutual
/-- the first term that is not plain, taken out; what stays is lifted -/
def pullT (P : Prog) (n : Nat) (s : Slot) : T → Option (Slot × T × T)
  | .bind x => if s.1 != P.makes s.2 then none else some (s, .bind x, .var n)
  | .make h as => (pullTs P n (P.shape s.2 h) as).map fun r => (r.1, r.2.1, .make h r.2.2)
  | _ => none
def pullTs (P : Prog) (n : Nat) (sl : List Slot) : List T → Option (Slot × T × List T)
  | [] => none
  | x :: xs => match sl with
    | [] => none
    | s :: r => match pullT P n s x with
      | some q => some (q.1, q.2.1, q.2.2 :: lifts n 1 xs)
      | none => (pullTs P n r xs).map fun q => (q.1, q.2.1, lift n 1 x :: q.2.2)
end
mutual
theorem pullT_none {P : Prog} {n : Nat} : ∀ (x : T) (s : Slot), (pullT P n s x).isNone = isPlain P s x
  | .bind x, s => by
    simp only [pullT, isPlain]
    cases s.1 != P.makes s.2 <;> rfl
  | .make h as, s => by
    simp only [pullT, isPlain, Option.isNone_map]
    exact pullTs_none as _
  | .var _, s => rfl
  | .mtch _, s => rfl
  | .cut _ _ _, s => rfl
  | .call _ _, s => rfl
  | .stop _, s => rfl
theorem pullTs_none {P : Prog} {n : Nat} : ∀ (xs : List T) (sl : List Slot), (pullTs P n sl xs).isNone = arePlain P sl xs
  | [], sl => by simp [pullTs, arePlain]
  | x :: xs, [] => by simp [pullTs, arePlain]
  | x :: xs, s :: r => by
    have h1 := pullT_none (P := P) (n := n) x s
    have h2 := pullTs_none (P := P) (n := n) xs r
    simp only [pullTs, arePlain, ← h1, ← h2]
    cases pullT P n s x <;> simp
end
theorem drop_cons {α : Type} {l r : List α} {k : Nat} {x : α} (h : l.drop k = x :: r) : l[k]? = some x ∧ l.drop (k + 1) = r := by
  constructor
  · have := congrArg (fun q => q[0]?) h
    simpa using this
  · rw [← List.drop_drop, h]
    rfl
theorem pullTs_len {P : Prog} {n : Nat} : ∀ {xs : List T} {sl : List Slot} {q : Slot × T × List T}, pullTs P n sl xs = some q → q.2.2.length = xs.length
  | [], sl, q, h => by simp [pullTs] at h
  | x :: xs, [], q, h => by simp [pullTs] at h
  | x :: xs, s :: r, q, h => by
    simp only [pullTs] at h
    split at h
    · injection h with h
      subst h
      have : ∀ l : List T, (lifts n 1 l).length = l.length := by
        intro l
        induction l with
        | nil => rfl
        | cons a l ih => simp [lifts, ih]
      simp [this]
    · obtain ⟨q', h1, rfl⟩ := Option.map_eq_some_iff.mp h
      simp [pullTs_len h1]
section
variable {cfg : Cfg} (B : Base cfg) {P : Prog}
include B
/-- the turns after one is found -/
theorem pull_tail {m N : Nat} {xs0 : List T} {sl0 : List Slot} {b : Nat} {L0 : LH} {f : List D} (hb : b = L0.length) (hw : Wids xs0) (hn : tds xs0 ≤ m) (hl : xs0.length ≤ 4) (r7 r8 r9 : Option D) :
    ∀ (xs : List T) (k : Nat) (acc : List D) (G : LH) (r6 : Option D), xs0.drop k = xs → acc.length + xs.length ≤ 4 → ∃ G' r6', loopI (turnF cfg (run cfg m) (calls cfg m).2 (.name 6) [.ite (.or (.isn true (.var 4)) (.call 157 [.var 0, .idx (.var 1) (.var 6), .idx (.var 2) (.var 6)])) [.expr (.bm .append (.var 5) [.call 154 [.idx (.var 2) (.var 6), .var 3, .int 1]])] [.ite (.cmp .eq (.idx (.idx (.var 2) (.var 6)) (.int 0)) (.str 6)) [.setT (.tup [.name 7, .name 8, .name 9]) (.call 159 [.var 0, .idx (.idx (.idx (.idx (.var 0) (.int 0)) (.idx (.idx (.var 1) (.var 6)) (.int 1))) (.int 1)) (.idx (.idx (.var 2) (.var 6)) (.int 1)), .idx (.idx (.var 2) (.var 6)) (.int 2), .var 3]), .set 4 (.tup [.var 7, .var 8]), .expr (.bm .append (.var 5) [.tup [.str 6, .idx (.idx (.var 2) (.var 6)) (.int 1), .var 9]])] [.set 4 (.tup [.idx (.var 1) (.var 6), .idx (.var 2) (.var 6)]), .expr (.bm .append (.var 5) [.tup [.str 20, .var 3]])]]])
      ((List.range' k xs.length).map fun (i : Nat) => D.int (i : Int)) [some (eProg P), some (.tup (sl0.map eSlot)), some (.tup (encs xs0)), some (.int N), some (.tup f), some (.ref b), r6, r7, r8, r9] (L0 ++ .lst acc :: G)
      = .ok (.more [some (eProg P), some (.tup (sl0.map eSlot)), some (.tup (encs xs0)), some (.int N), some (.tup f), some (.ref b), r6', r7, r8, r9]) (L0 ++ .lst (acc ++ encs (lifts N 1 xs)) :: G')
  | [], k, acc, G, r6, hd, ha => ⟨G, r6, by simp [loopI, lifts, encs]⟩
  | x :: xs, k, acc, G, r6, hd, ha => by
    obtain ⟨g1, g2⟩ := drop_cons hd
    have hx : x ∈ xs0 := List.mem_of_getElem? g1
    obtain ⟨G1, e1⟩ := lift_ok B (b := N) (d := 1) m x (L0 ++ .lst acc :: G) (wids_mem hw hx) (by have := tds_mem hx; omega)
    simp only [List.length_cons] at ha
    obtain ⟨G2, q6, e2⟩ := pull_tail (N := N) (sl0 := sl0) (f := f) hb hw hn hl r7 r8 r9 xs (k + 1) (acc ++ [enc (lift N 1 x)]) (G ++ G1) (some (.int k)) g2 (by simp; omega)
    refine ⟨G2, q6, ?_⟩
    subst hb
    have hm : acc.length < most := by unfold most; omega
    have e3 : (L0 ++ LO.lst acc :: G) ++ G1 = L0 ++ LO.lst acc :: (G ++ G1) := by simp
    have st : ∀ o', (L0 ++ LO.lst acc :: (G ++ G1)).set L0.length o' = L0 ++ o' :: (G ++ G1) := fun o' => set_end
    rw [e3] at e1
    simp only [List.length_cons, List.range'_succ, List.map_cons, loopI, lifts, encs]
    simp at e1
    simp [turnF_def, bmOk, g1, encs_get, e1, bmR, hm, st]
    simp only [List.append_assoc] at e2
    simp at e2
    simp [e2]
/-- the turns until one is found -/
theorem pull_head (W : PWf P) {m N : Nat} {xs0 : List T} {sl0 ctx : List Slot} {b : Nat} {L0 : LH} (hb : b = L0.length) (hw : Wids xs0) (hn : tds xs0 + 1 ≤ m) (hl : xs0.length ≤ 4)
    (ihP : ∀ (xs : List T) (sl : List Slot) (L : LH) (q : Slot × T × List T), okTs P ctx sl xs → (∀ s ∈ sl, SlotOk P s) → sl.length ≤ 3 → tds xs + 2 ≤ m → pullTs P N sl xs = some q → ∃ G, run cfg m 159 [eProg P, eSlots sl, .tup (encs xs), .int N] L = .ok (.tup [eSlot q.1, enc q.2.1, .tup (encs q.2.2)]) (L ++ G)) :
    ∀ (xs : List T) (sl : List Slot) (k : Nat) (acc : List D) (G : LH) (r6 r7 r8 r9 : Option D) (q : Slot × T × List T), xs0.drop k = xs → sl0.drop k = sl → okTs P ctx sl xs → (∀ s ∈ sl, SlotOk P s) → acc.length + xs.length ≤ 4 → pullTs P N sl xs = some q → ∃ G' r6' r7' r8' r9', loopI (turnF cfg (run cfg m) (calls cfg m).2 (.name 6) [.ite (.or (.isn true (.var 4)) (.call 157 [.var 0, .idx (.var 1) (.var 6), .idx (.var 2) (.var 6)])) [.expr (.bm .append (.var 5) [.call 154 [.idx (.var 2) (.var 6), .var 3, .int 1]])] [.ite (.cmp .eq (.idx (.idx (.var 2) (.var 6)) (.int 0)) (.str 6)) [.setT (.tup [.name 7, .name 8, .name 9]) (.call 159 [.var 0, .idx (.idx (.idx (.idx (.var 0) (.int 0)) (.idx (.idx (.var 1) (.var 6)) (.int 1))) (.int 1)) (.idx (.idx (.var 2) (.var 6)) (.int 1)), .idx (.idx (.var 2) (.var 6)) (.int 2), .var 3]), .set 4 (.tup [.var 7, .var 8]), .expr (.bm .append (.var 5) [.tup [.str 6, .idx (.idx (.var 2) (.var 6)) (.int 1), .var 9]])] [.set 4 (.tup [.idx (.var 1) (.var 6), .idx (.var 2) (.var 6)]), .expr (.bm .append (.var 5) [.tup [.str 20, .var 3]])]]])
      ((List.range' k xs.length).map fun (i : Nat) => D.int (i : Int)) [some (eProg P), some (.tup (sl0.map eSlot)), some (.tup (encs xs0)), some (.int N), some .non, some (.ref b), r6, r7, r8, r9] (L0 ++ .lst acc :: G)
      = .ok (.more [some (eProg P), some (.tup (sl0.map eSlot)), some (.tup (encs xs0)), some (.int N), some (.tup [eSlot q.1, enc q.2.1]), some (.ref b), r6', r7', r8', r9']) (L0 ++ .lst (acc ++ encs q.2.2) :: G')
  | [], sl, k, acc, G, r6, r7, r8, r9, q, hd, hd2, ho, hs, ha, hq => by simp [pullTs] at hq
  | x :: xs, [], k, acc, G, r6, r7, r8, r9, q, hd, hd2, ho, hs, ha, hq => by simp [pullTs] at hq
  | x :: xs, s :: r, k, acc, G, r6, r7, r8, r9, q, hd, hd2, ho, hs, ha, hq => by
    obtain ⟨g1, g2⟩ := drop_cons hd
    obtain ⟨f1, f2⟩ := drop_cons hd2
    have hx : x ∈ xs0 := List.mem_of_getElem? g1
    have ht := tds_mem hx
    simp only [okTs] at ho
    obtain ⟨_, _, e0, o1, o2⟩ := ho
    injection e0 with e0 e0'
    subst e0 e0'
    have so := hs s List.mem_cons_self
    simp only [List.length_cons] at ha
    have hm : acc.length < most := by unfold most; omega
    obtain ⟨G1, e1⟩ := lplain_ok B W m x s ctx (L0 ++ .lst acc :: G) o1 so (by omega)
    have e3 : (L0 ++ LO.lst acc :: G) ++ G1 = L0 ++ LO.lst acc :: (G ++ G1) := by simp
    rw [e3] at e1
    have pn := pullT_none (P := P) (n := N) x s
    simp only [pullTs] at hq
    cases hp : pullT P N s x with
    | none =>
      rw [hp] at hq pn
      obtain ⟨q', h1, rfl⟩ := Option.map_eq_some_iff.mp hq
      obtain ⟨G2, e2⟩ := lift_ok B (b := N) (d := 1) m x (L0 ++ .lst acc :: (G ++ G1)) (wids_mem hw hx) (by omega)
      have e4 : (L0 ++ LO.lst acc :: (G ++ G1)) ++ G2 = L0 ++ LO.lst acc :: (G ++ G1 ++ G2) := by simp
      rw [e4] at e2
      obtain ⟨G3, q6, q7, q8, q9, e5⟩ := pull_head (N := N) (sl0 := sl0) (ctx := ctx) W hb hw hn hl ihP xs r (k + 1) (acc ++ [enc (lift N 1 x)]) (G ++ G1 ++ G2) (some (.int k)) r7 r8 r9 q' g2 f2 o2 (fun y m => hs y (List.mem_cons_of_mem _ m)) (by simp; omega) h1
      refine ⟨G3, q6, q7, q8, q9, ?_⟩
      subst hb
      have st : ∀ o', (L0 ++ LO.lst acc :: (G ++ G1 ++ G2)).set L0.length o' = L0 ++ o' :: (G ++ G1 ++ G2) := fun o' => set_end
      rw [← pn] at e1
      simp only [List.length_cons, List.range'_succ, List.map_cons, loopI, encs]
      simp only [List.append_assoc] at e1 e2 st e5
      simp at e1 e2 e5
      simp [turnF_def, bmOk, g1, f1, encs_get, e1, e2, bmR, hm, st]
      simp [e5]
    | some p =>
      rw [hp] at hq pn
      injection hq with hq
      subst hq
      rw [← pn] at e1
      simp only [Option.isNone_some] at e1
      cases x with
      | bind y =>
        simp only [pullT] at hp
        split at hp
        · exact absurd hp (by simp)
        · injection hp with hp
          subst hp
          obtain ⟨G2, q6, e5⟩ := pull_tail B (P := P) (sl0 := sl0) (m := m) (N := N) (f := [eSlot s, enc (.bind y)]) hb hw (by omega) hl r7 r8 r9 xs (k + 1) (acc ++ [enc (.var N)]) (G ++ G1) (some (.int k)) g2 (by simp; omega)
          refine ⟨G2, q6, r7, r8, r9, ?_⟩
          subst hb
          have st : ∀ o', (L0 ++ LO.lst acc :: (G ++ G1)).set L0.length o' = L0 ++ o' :: (G ++ G1) := fun o' => set_end
          simp only [List.length_cons, List.range'_succ, List.map_cons, loopI, encs]
          simp at e1 e5
          simp [turnF_def, bmOk, g1, f1, encs_get, e1, bmR, hm, st]
          simp [enc] at e5 ⊢
          simp [hm, e5]
      | make h as =>
        simp only [pullT] at hp
        obtain ⟨q', h1, rfl⟩ := Option.map_eq_some_iff.mp hp
        simp only [okT] at o1
        obtain ⟨h3, h4, h5⟩ := o1
        simp only [td] at ht
        obtain ⟨G2, e2⟩ := ihP as (P.shape s.2 h) (L0 ++ .lst acc :: (G ++ G1)) q' h5 W.shape (W.shl s.2 h) (by omega) h1
        have e4 : (L0 ++ LO.lst acc :: (G ++ G1)) ++ G2 = L0 ++ LO.lst acc :: (G ++ G1 ++ G2) := by simp
        rw [e4] at e2
        obtain ⟨d, hdd, e0⟩ := prog_shapes B so
        have sh := P.shape_at h4
        obtain ⟨G3, q6, e5⟩ := pull_tail B (P := P) (sl0 := sl0) (m := m) (N := N) (f := [eSlot q'.1, enc q'.2.1]) hb hw (by omega) hl (some (eSlot q'.1)) (some (enc q'.2.1)) (some (.tup (encs q'.2.2))) xs (k + 1) (acc ++ [enc (.make h q'.2.2)]) (G ++ G1 ++ G2) (some (.int k)) g2 (by simp; omega)
        refine ⟨G3, q6, some (eSlot q'.1), some (enc q'.2.1), some (.tup (encs q'.2.2)), ?_⟩
        subst hb
        have st : ∀ o', (L0 ++ LO.lst acc :: (G ++ G1 ++ G2)).set L0.length o' = L0 ++ o' :: (G ++ G1 ++ G2) := fun o' => set_end
        simp only [List.length_cons, List.range'_succ, List.map_cons, loopI, encs]
        simp only [List.append_assoc] at e1 e2 st e5
        simp [eProg, eDecls, eSlots, eSlot, enc] at e1 e2 e5
        simp [turnF_def, bmOk, g1, f1, encs_get, eProg, eDecls, hdd, eDecl, e0, sh, eSlot, eSlots, enc, e1, e2, bmR, hm, st]
        simp [hm, e5]
      | _ => simp [pullT] at hp
theorem pull_ok (W : PWf P) {N : Nat} {ctx : List Slot} : ∀ (n : Nat) (xs : List T) (sl : List Slot) (L : LH) (q : Slot × T × List T), okTs P ctx sl xs → (∀ s ∈ sl, SlotOk P s) → sl.length ≤ 3 → tds xs + 2 ≤ n → pullTs P N sl xs = some q → ∃ G, run cfg n 159 [eProg P, eSlots sl, .tup (encs xs), .int N] L = .ok (.tup [eSlot q.1, enc q.2.1, .tup (encs q.2.2)]) (L ++ G) := by
  intro n
  induction n with
  | zero =>
    intro xs sl L q _ _ _ h
    omega
  | succ n ih =>
    intro xs sl L q ho hs hl hn hq
    have ll := okTs_len ho
    rw [run_succ, runDef_of B.d159 rfl]
    obtain ⟨G, q6, q7, q8, q9, e⟩ := pull_head B W (m := n) (N := N) (xs0 := xs) (sl0 := sl) (L0 := L) rfl (okTs_wid W xs sl ctx ho) (by omega) (by omega) ih xs sl 0 [] [] none none none none q rfl rfl ho hs (by simp; omega) hq
    have src : srcR .rng1 (L ++ [.lst []]) [.int (sl.length : Int)] = _ := srcR_rng (by omega)
    rw [ll, ← List.range_eq_range'] at e
    refine ⟨.lst (encs q.2.2) :: G, ?_⟩
    simp at e
    simp [Lib._law_pull, eSlots, src, e]
end
end Ap

end
section
set_option linter.all false
set_option maxRecDepth 100000
set_option maxHeartbeats 1000000
/-! The law's step. -/
namespace Ap
open Ev
/-- what is bound ahead of a statement -/
def mkCut (s : Slot) (x y : T) : T := if s.1 then .cut s.2 x (.bind y) else .cut s.2 (.bind y) x
/-- the two sides together -/
def Prog.join (P : Prog) (t : Nat) (m w : T) : T := if P.makes t then .cut t m w else .cut t w m
def thirdC (P : Prog) (n t : Nat) (m w : T) : Option T := match m with
  | .make h as => (pullTs P n (P.shape t h) as).map fun q => mkCut q.1 q.2.1 (P.join t (.make h q.2.2) (lift n 1 w))
  | _ => none
/-- what is not plain is bound ahead -/
def thirdT (P : Prog) (n : Nat) : T → Option T
  | .call j xs => (pullTs P n (P.params j) xs).map fun q => mkCut q.1 q.2.1 (.call j q.2.2)
  | .cut t p c => thirdC P n t (P.sides t p c).1 (P.sides t p c).2
  | _ => none
def reducedC (P : Prog) (n t : Nat) (m w : T) : Option T := match m with
  | .bind y => some (subS P n [w] n 0 y)
  | _ => if isPlain P (P.makes t, t) m then (match w with
    | .bind y => some (subS P n [m] n 0 y)
    | .mtch ss => (match m with
      | .make h as => (ss[h]?).map fun y => subS P n as n 0 y
      | _ => none)
    | _ => none) else none
def reducedT (P : Prog) (n : Nat) : T → Option T
  | .call j xs => if arePlain P (P.params j) xs then some (subS P 0 xs n 0 (P.body j)) else none
  | .cut t p c => reducedC P n t (P.sides t p c).1 (P.sides t p c).2
  | _ => none
def stepT (P : Prog) (s : T) : Option (Bool × T) := match thirdT P 0 s with
  | some x => some (true, x)
  | none => (reducedT P 0 s).map fun x => (false, x)
/-- the sides of a cut that is right -/
theorem sides_okT {P : Prog} {ctx : List Slot} {t : Nat} {p c : T} (h2 : okT P ctx (true, t) p) (h3 : okT P ctx (false, t) c) : okT P ctx (P.makes t, t) (P.sides t p c).1 ∧ okT P ctx (!P.makes t, t) (P.sides t p c).2 := by
  unfold Prog.sides
  cases P.makes t
  · exact ⟨h3, h2⟩
  · exact ⟨h2, h3⟩
theorem sides_td {P : Prog} {t : Nat} {p c : T} : td (P.sides t p c).1 ≤ max (td p) (td c) ∧ td (P.sides t p c).2 ≤ max (td p) (td c) := by
  unfold Prog.sides
  split <;> simp <;> omega
/-- the maker's side, where nothing is known -/
theorem maker_is {P : Prog} {t : Nat} {m : T} (h : okT P [] (P.makes t, t) m) : (∃ y, m = .bind y) ∨ ∃ k as, m = .make k as := by
  cases m with
  | var k => simp [okT] at h
  | bind y => exact .inl ⟨y, rfl⟩
  | make k as => exact .inr ⟨k, as, rfl⟩
  | mtch ss =>
    simp only [okT] at h
    have := h.1
    cases hh : P.makes t <;> rw [hh] at this <;> simp at this
  | _ => simp [okT] at h
theorem taker_is {P : Prog} {t : Nat} {m : T} (h : okT P [] (!P.makes t, t) m) : (∃ y, m = .bind y) ∨ ∃ ss, m = .mtch ss := by
  cases m with
  | var k => simp [okT] at h
  | bind y => exact .inl ⟨y, rfl⟩
  | mtch ss => exact .inr ⟨ss, rfl⟩
  | make k as =>
    simp only [okT] at h
    have := h.1
    cases hh : P.makes t <;> rw [hh] at this <;> simp at this
  | _ => simp [okT] at h
theorem pull_some {P : Prog} {n : Nat} {sl : List Slot} {xs : List T} : (pullTs P n sl xs = none ∧ arePlain P sl xs = true) ∨ ∃ q, pullTs P n sl xs = some q ∧ arePlain P sl xs = false := by
  have h := pullTs_none (P := P) (n := n) xs sl
  cases hq : pullTs P n sl xs with
  | none => exact .inl ⟨rfl, by rw [← h, hq]; rfl⟩
  | some q => exact .inr ⟨q, rfl, by rw [← h, hq]; rfl⟩
theorem stepT_some {P : Prog} {s : T} (h : okS P [] s) (hs : ∀ k, s ≠ .stop k) : ∃ r, stepT P s = some r := by
  unfold stepT
  cases h3 : thirdT P 0 s with
  | some x => exact ⟨_, rfl⟩
  | none =>
    cases s with
    | stop k => exact absurd rfl (hs k)
    | call j xs =>
      simp only [thirdT, Option.map_eq_none_iff] at h3
      rcases pull_some (P := P) (n := 0) (sl := P.params j) (xs := xs) with ⟨_, h4⟩ | ⟨q, h4, _⟩
      · exact ⟨_, by simp only [reducedT, h4, if_pos, Option.map_some]; rfl⟩
      · rw [h4] at h3; exact absurd h3 (by simp)
    | cut t p c =>
      simp only [okS] at h
      obtain ⟨h0, h1, h2⟩ := h
      obtain ⟨k1, k2⟩ := sides_okT h1 h2
      simp only [thirdT] at h3
      simp only [reducedT]
      generalize (P.sides t p c).1 = m at k1 h3 ⊢
      generalize (P.sides t p c).2 = w at k2 h3 ⊢
      rcases maker_is k1 with ⟨y, rfl⟩ | ⟨k, as, rfl⟩
      · exact ⟨_, rfl⟩
      · simp only [thirdC, Option.map_eq_none_iff] at h3
        have h4 : arePlain P (P.shape t k) as = true := by
          rcases pull_some (P := P) (n := 0) (sl := P.shape t k) (xs := as) with ⟨_, h4⟩ | ⟨q, h4, _⟩
          · exact h4
          · rw [h4] at h3; exact absurd h3 (by simp)
        rcases taker_is k2 with ⟨y, rfl⟩ | ⟨ss, rfl⟩
        · exact ⟨_, by simp only [reducedC, isPlain, h4, if_pos, Option.map_some]; rfl⟩
        · simp only [okT] at k1 k2
          have h5 := okBs_len k2.2
          have h6 : k < ss.length := by omega
          exact ⟨_, by simp only [reducedC, isPlain, h4, if_pos, List.getElem?_eq_getElem h6, Option.map_some]; rfl⟩
    | _ => simp [okS] at h
section
variable {cfg : Cfg} (B : Base cfg) {P : Prog}
include B
theorem cast_sum {a b : Nat} : ((a : Int) + b) = ((a + b : Nat) : Int) := by omega
/-- the end of a third -/
theorem third_ok (W : PWf P) {N n : Nat} {ctx : List Slot} {s : T} {L : LH} (h : okS P ctx s) (hn : td s + 4 ≤ n) : ∃ G, run cfg n 161 [eProg P, enc s, .int N] L = .ok (match thirdT P N s with | some x => enc x | none => .non) (L ++ G) := by
  obtain ⟨n, rfl⟩ : ∃ m, n = m + 1 := ⟨n - 1, by omega⟩
  rw [run_succ, runDef_of B.d161 rfl]
  cases s with
  | stop k => exact ⟨[], by simp [Lib._law_third, enc, thirdT]⟩
  | call j xs =>
    simp only [okS] at h
    obtain ⟨h1, h2⟩ := h
    simp only [td] at hn
    obtain ⟨d, hd, e0, _⟩ := prog_params B h1
    obtain ⟨G1, e1⟩ := lplains_ok B W (n := n) (L := L) (W.pal j) h2 (W.par j) (by omega)
    rcases pull_some (P := P) (n := N) (sl := P.params j) (xs := xs) with ⟨h3, h4⟩ | ⟨q, h3, h4⟩
    · refine ⟨G1, ?_⟩
      rw [h4] at e1
      simp [eProg, eDefs, eSlots] at e1
      simp [Lib._law_third, enc, thirdT, h3, eProg, eDefs, eSlots, hd, eDef, e0, e1]
    · obtain ⟨G2, e2⟩ := pull_ok B W (N := N) n xs _ (L ++ G1) q h2 (W.par j) (W.pal j) (by omega) h3
      refine ⟨G1 ++ G2, ?_⟩
      rw [h4] at e1
      simp [eProg, eDefs, eSlots, eSlot] at e1 e2
      simp [Lib._law_third, enc, thirdT, h3, eProg, eDefs, eSlots, hd, eDef, e0, e1, e2, mkCut]
      cases q.1.1 <;> simp [eSide, enc]
  | cut t p c =>
    simp only [okS] at h
    obtain ⟨h0, h1, h2⟩ := h
    simp only [td] at hn
    obtain ⟨k1, k2⟩ := sides_okT h1 h2
    obtain ⟨d1, d2⟩ := sides_td (P := P) (t := t) (p := p) (c := c)
    obtain ⟨m, rfl⟩ : ∃ m, n = m + 2 := ⟨n - 2, by omega⟩
    have sd := fun L => lsides_ok B (P := P) (n := m) (p := p) (c := c) (L := L) h0
    have mk := fun L => lmaking_ok B (P := P) (n := m + 1) (L := L) h0
    simp only [thirdT]
    generalize (P.sides t p c).1 = x at *
    generalize (P.sides t p c).2 = w at *
    simp [eProg, enc] at sd mk
    cases x with
    | make k as =>
      simp only [okT] at k1
      obtain ⟨j1, j2, j3⟩ := k1
      simp only [td] at d1
      obtain ⟨d, hd, e0⟩ := prog_shapes B h0
      have sh := P.shape_at j2
      obtain ⟨G1, e1⟩ := lplains_ok B W (n := m + 2) (L := L) (W.shl t k) j3 W.shape (by omega)
      simp only [thirdC]
      rcases pull_some (P := P) (n := N) (sl := P.shape t k) (xs := as) with ⟨h3, h4⟩ | ⟨q, h3, h4⟩
      · refine ⟨G1, ?_⟩
        rw [h4] at e1
        simp [eProg, eDecls, eDefs, eSlots] at e1 sd
        simp [Lib._law_third, enc, h3, eProg, eDecls, eDefs, eSlots, hd, eDecl, e0, sh, sd, e1]
      · obtain ⟨G2, e2⟩ := pull_ok B W (N := N) (m + 2) as _ (L ++ G1) q j3 W.shape (W.shl t k) (by omega) h3
        obtain ⟨G3, e3⟩ := lift_ok B (b := N) (d := 1) (m + 2) w (L ++ G1 ++ G2) (okT_wid W w _ _ k2) (by omega)
        refine ⟨G1 ++ G2 ++ G3, ?_⟩
        rw [h4] at e1
        simp [eProg, eDecls, eDefs, eSlots, eSlot] at e1 e2 e3 sd mk
        simp [Lib._law_third, enc, h3, eProg, eDecls, eDefs, eSlots, hd, eDecl, e0, sh, sd, e1, e2, e3, mk, mkCut, Prog.join]
        cases P.makes t <;> cases q.1.1 <;> simp [eSide, enc]
    | _ =>
      refine ⟨[], ?_⟩
      simp [eProg, eDecls, eDefs, enc] at sd
      simp [Lib._law_third, enc, thirdC, eProg, eDecls, eDefs, sd]
  | _ => simp [okS] at h
end
end Ap

end
section
set_option linter.all false
set_option maxRecDepth 100000
set_option maxHeartbeats 1000000
/-! The law's step, second part. -/
namespace Ap
open Ev
theorem okTs_mem_wid {P : Prog} (W : PWf P) {ctx sl : List Slot} {xs : List T} (h : okTs P ctx sl xs) : ∀ a ∈ xs, Wid a ∧ td a ≤ tds xs := fun a m => ⟨wids_mem (okTs_wid W xs sl ctx h) m, tds_mem m⟩
theorem okBs_mem {P : Prog} {ctx : List Slot} {sh : List (List Slot)} {xs : List T} {k : Nat} {y : T} (h : okBs P ctx sh xs) (hk : xs[k]? = some y) : ∃ s, sh[k]? = some s ∧ okS P (ctx ++ s) y ∧ td y ≤ tds xs := by
  have hl := okBs_len h
  have h1 := (List.getElem?_eq_some_iff.mp hk).1
  obtain ⟨s, x, q1, q2, q3, q4⟩ := okBs_get (k := k) h (by omega)
  rw [hk] at q2
  injection q2 with q2
  subst q2
  exact ⟨s, q1, q3, q4⟩
section
variable {cfg : Cfg} (B : Base cfg) {P : Prog}
include B
theorem reduced_ok (W : PWf P) {Db n : Nat} {s : T} {L : LH} (hb : ∀ j, td (P.body j) ≤ Db) (h : okS P [] s) (hn : 2 * td s + Db + 6 ≤ n) : ∃ G, match reducedT P 0 s with
    | some x => ∃ c, run cfg n 162 [eProg P, enc s, .int 0] L = .ok (.tup [.str c, enc x]) (L ++ G)
    | none => run cfg n 162 [eProg P, enc s, .int 0] L = .ok .non (L ++ G) := by
  obtain ⟨n, rfl⟩ : ∃ m, n = m + 1 := ⟨n - 1, by omega⟩
  rw [run_succ, runDef_of B.d162 rfl]
  cases s with
  | stop k => exact ⟨[], by simp [Lib._law_reduced, enc, reducedT]⟩
  | call j xs =>
    simp only [okS] at h
    obtain ⟨h1, h2⟩ := h
    simp only [td] at hn
    obtain ⟨d, hd, e0, e5⟩ := prog_params B h1
    have ll := okTs_len h2
    obtain ⟨G1, e1⟩ := lplains_ok B W (n := n) (L := L) (W.pal j) h2 (W.par j) (by omega)
    simp only [reducedT]
    rcases Bool.eq_false_or_eq_true (arePlain P (P.params j) xs) with h4 | h4 <;> rw [h4] at e1
    · rw [if_pos h4]
      obtain ⟨G2, e2⟩ := (lput_ok B W (keep := 0) (l := 0) (N := tds xs) (as := xs) (okTs_mem_wid W h2) n).1 (P.body j) ((P.params j).length : Nat) 0 _ (L ++ G1) (by omega) (W.bod j h1) (by have := hb j; omega)
      refine ⟨G1 ++ G2, 12, ?_⟩
      simp [eProg, eDefs, eSlots] at e1 e2
      simp [Lib._law_reduced, enc, eProg, eDefs, eSlots, hd, eDef, e0, e5, e1, e2]
    · rw [if_neg (by simp [h4])]
      refine ⟨G1, ?_⟩
      simp [eProg, eDefs, eSlots] at e1
      simp [Lib._law_reduced, enc, eProg, eDefs, eSlots, hd, eDef, e0, e5, e1]
  | cut t p c =>
    simp only [okS] at h
    obtain ⟨h0, h1, h2⟩ := h
    simp only [td] at hn
    obtain ⟨k1, k2⟩ := sides_okT h1 h2
    obtain ⟨d1, d2⟩ := sides_td (P := P) (t := t) (p := p) (c := c)
    obtain ⟨m, rfl⟩ : ∃ m, n = m + 2 := ⟨n - 2, by omega⟩
    have sd := fun L => lsides_ok B (P := P) (n := m) (p := p) (c := c) (L := L) h0
    have mk := fun L => lmaking_ok B (P := P) (n := m + 1) (L := L) h0
    simp only [reducedT]
    generalize (P.sides t p c).1 = x at *
    generalize (P.sides t p c).2 = w at *
    simp [eProg, enc] at sd mk
    rcases maker_is k1 with ⟨y, rfl⟩ | ⟨k, as, rfl⟩
    · simp only [okT] at k1
      simp only [td] at d1
      obtain ⟨G2, e2⟩ := (lput_ok B W (keep := 0) (l := 0) (N := td w) (as := [w]) (by simp; exact okT_wid W w _ _ k2) (m + 2)).1 y 1 0 _ L (by simp) k1 (by omega)
      refine ⟨G2, 5, ?_⟩
      simp [eProg, enc, encs] at e2
      simp [Lib._law_reduced, enc, eProg, sd, e2]
    · have ps : SlotOk P (P.makes t, t) := h0
      obtain ⟨G1, e1⟩ := lplain_ok B W (m + 2) (.make k as) (P.makes t, t) [] L k1 ps (by omega)
      have k1' := k1
      simp only [okT] at k1
      obtain ⟨j1, j2, j3⟩ := k1
      have d1' := d1
      simp only [td] at d1
      simp only [reducedC]
      rcases Bool.eq_false_or_eq_true (isPlain P (P.makes t, t) (.make k as)) with h4 | h4 <;> rw [h4] at e1
      · rw [if_pos h4]
        rcases taker_is k2 with ⟨y, rfl⟩ | ⟨ss, rfl⟩
        · simp only [okT] at k2
          simp only [td] at d2
          obtain ⟨G2, e2⟩ := (lput_ok B W (keep := 0) (l := 0) (N := td (.make k as)) (as := [.make k as]) (by simp; exact okT_wid W _ _ _ k1') (m + 2)).1 y 1 0 _ (L ++ G1) (by simp) k2 (by omega)
          refine ⟨G1 ++ G2, 64, ?_⟩
          simp [eProg, enc, encs, eSlot] at e1 e2
          simp [Lib._law_reduced, enc, eProg, sd, mk, e1, e2]
        · simp only [okT] at k2
          simp only [td] at d2
          have h5 := okBs_len k2.2
          have h6 : k < ss.length := by omega
          have h7 : ss[k]? = some ss[k] := List.getElem?_eq_getElem h6
          obtain ⟨s', q1, q2, q3⟩ := okBs_mem k2.2 h7
          obtain ⟨G2, e2⟩ := (lput_ok B W (keep := 0) (l := 0) (N := tds as) (as := as) (okTs_mem_wid W j3) (m + 2)).1 ss[k] (as.length : Nat) 0 _ (L ++ G1) (by omega) q2 (by omega)
          have h8 : (encs ss)[k]? = some (enc ss[k]) := by rw [encs_get, h7]; rfl
          have h9 : (encs ss)[k]'(by rw [encs_length]; exact h6) = enc ss[k] := by simp [encs_map]
          simp only [h7, Option.map_some]
          refine ⟨G1 ++ G2, 13, ?_⟩
          simp [eProg, enc, encs, eSlot] at e1 e2
          simp [Lib._law_reduced, enc, eProg, sd, mk, encs_length, h8, e1, e2]
      · rw [if_neg (by simp [h4])]
        refine ⟨G1, ?_⟩
        simp [eProg, enc, encs, eSlot] at e1
        simp [Lib._law_reduced, enc, eProg, sd, mk, e1]
  | _ => simp [okS] at h
theorem stepped_ok (W : PWf P) {Db n : Nat} {s : T} {L : LH} (hb : ∀ j, td (P.body j) ≤ Db) (h : okS P [] s) (hn : 2 * td s + Db + 7 ≤ n) : ∃ G, run cfg n 163 [eProg P, enc s] L = .ok (match stepT P s with | some r => .tup [.bl r.1, enc r.2] | none => .non) (L ++ G) := by
  obtain ⟨n, rfl⟩ : ∃ m, n = m + 1 := ⟨n - 1, by omega⟩
  rw [run_succ, runDef_of B.d163 rfl]
  obtain ⟨G1, e1⟩ := third_ok B W (N := 0) (n := n) (L := L) h (by omega)
  obtain ⟨G2, e2⟩ := reduced_ok B W (Db := Db) (n := n) (L := L ++ G1) hb h (by omega)
  by_cases hs : ∃ k, s = .stop k
  · obtain ⟨k, rfl⟩ := hs
    exact ⟨[], by simp [Lib._law_stepped, enc, stepT, thirdT, reducedT]⟩
  · obtain ⟨r, hr⟩ := stepT_some h (fun k hk => hs ⟨k, hk⟩)
    have hw : ∃ c r, enc s = .tup (.str c :: r) ∧ c ≠ 18 := by
      cases s with
      | stop k => exact absurd ⟨k, rfl⟩ hs
      | _ => exact ⟨_, _, rfl, by simp⟩
    obtain ⟨c, r', hc, hc'⟩ := hw
    rw [hr]
    unfold stepT at hr
    rw [hc] at e1 e2 ⊢
    cases h3 : thirdT P 0 s with
    | some x =>
      rw [h3] at hr e1
      injection hr with hr
      subst hr
      refine ⟨G1, ?_⟩
      have hx : ∃ l, enc x = .tup l := by cases x <;> exact ⟨_, rfl⟩
      obtain ⟨l, hl⟩ := hx
      simp only [hl] at e1 ⊢
      simp at e1
      simp [Lib._law_stepped, hc', e1]
    | none =>
      rw [h3] at hr e1
      obtain ⟨x, hx, rfl⟩ := Option.map_eq_some_iff.mp hr
      rw [hx] at e2
      obtain ⟨c2, e2⟩ := e2
      refine ⟨G1 ++ G2, ?_⟩
      simp at e1
      simp at e2
      simp [Lib._law_stepped, hc', e1, e2]
end
end Ap

end
section
set_option linter.all false
set_option maxRecDepth 100000
set_option maxHeartbeats 1000000
/-! How large and how deep. -/
namespace Ap
open Ev
mutual
def sz : T → Nat
  | .var _ => 1
  | .stop _ => 1
  | .bind s => 1 + sz s
  | .make _ as => 1 + szs as
  | .mtch ss => 1 + szs ss
  | .cut _ p c => 1 + sz p + sz c
  | .call _ as => 1 + szs as
def szs : List T → Nat
  | [] => 0
  | x :: xs => sz x + szs xs
end
theorem intsOf_map {α : Type} (f : α → Int) : ∀ l : List α, intsOf (l.map fun x => D.int (f x)) = some (l.map f)
  | [] => rfl
  | x :: xs => by
    have h := intsOf_map f xs
    simp only [List.map_cons, intsOf, h]
    rfl
theorem sum_sz : ∀ l : List T, (l.map fun x => ((sz x : Nat) : Int)).sum = ((szs l : Nat) : Int)
  | [] => rfl
  | x :: xs => by
    simp only [List.map_cons, List.sum_cons, sum_sz xs, szs]
    omega
theorem maxI_td : ∀ (l : List T) (m : Nat), maxI (m : Int) (l.map fun x => ((td x : Nat) : Int)) = ((max m (tds l) : Nat) : Int)
  | [], m => by simp [maxI, tds]
  | x :: xs, m => by
    simp only [List.map_cons, maxI, tds]
    have h := maxI_td xs (max m (td x))
    rw [show max m (max (td x) (tds xs)) = max (max m (td x)) (tds xs) by omega, ← h]
    congr 1
    split <;> omega
@[simp] theorem bfR_sum {tab : List PySem.Str} {L : LH} {n : Nat} : bfR tab .sum L [.ref n] = match L[n]? with
      | some (.lst xs) => match intsOf xs with
        | some ns => .ok (.int ns.sum) L
        | none => .bad
      | _ => .bad := id rfl
@[simp] theorem bfR_max2 {tab : List PySem.Str} {L : LH} {i j : Int} : bfR tab .max L [.int i, .int j] = .ok (.int (if j > i then j else i)) L := id rfl
@[simp] theorem bfR_max {tab : List PySem.Str} {L : LH} {n : Nat} : bfR tab .max L [.ref n] = match L[n]? with
      | some (.lst xs) => match intsOf xs with
        | some (m :: ns) => .ok (.int (maxI m ns)) L
        | _ => .bad
      | _ => .bad := id rfl
@[simp] theorem binR_lst {L : LH} {n m : Nat} : binR .add L (.ref n) (.ref m) = match L[n]?, L[m]? with
      | some (.lst xs), some (.lst ys) => if xs.length + ys.length ≤ most then .ok (.ref L.length) (L ++ [.lst (xs ++ ys)]) else .bad
      | _, _ => .bad := id rfl
section
variable {cfg : Cfg} (B : Base cfg)
include B
theorem size_ok : ∀ (n : Nat) (x : T) (L : LH), Wid x → td x ≤ n → ∃ G, run cfg n 95 [enc x] L = .ok (.int (sz x)) (L ++ G) := by
  intro n
  induction n with
  | zero =>
    intro x L _ h
    have := td_pos x; omega
  | succ n ih =>
    intro x L hw hn
    have many : ∀ (xs : List T) (L : LH) (i : Nat) (ρ : Env), i < ρ.length → Wids xs → tds xs ≤ n → xs.length ≤ 4 → ∃ G, loopI (turnC cfg (run cfg n) (calls cfg n).2 (.name i) [i] [] (.call 95 [.var i]) ρ) (encs xs) [] L = .ok (.more (xs.map fun x => .int (sz x))) (L ++ G) := by
      intro xs L i ρ hi hw ht hl
      obtain ⟨G, e⟩ := loop_map (step := turnC cfg (run cfg n) (calls cfg n).2 (.name i) [i] [] (.call 95 [.var i]) ρ) (toD := enc) (g := fun x => .int (sz x)) (ks := xs) (fun x m acc L ha => by
        obtain ⟨G, e⟩ := ih x L (wids_mem hw m) (by have := tds_mem m; omega)
        have hm : acc.length < most := by unfold most; omega
        exact ⟨G, by simp [turnC_def, hi, e, hm]⟩) [] L (by simp; omega)
      rw [encs_map]
      exact ⟨G, by simpa using e⟩
    have su := fun xs : List T => intsOf_map (fun x : T => ((sz x : Nat) : Int)) xs
    rw [run_succ, runDef_of B.d95 rfl]
    cases x with
    | var k => exact ⟨[], by simp [Lib._law_size, enc, sz, inR_str2, at_end]⟩
    | stop k => exact ⟨[], by simp [Lib._law_size, enc, sz, inR_str2, at_end]⟩
    | bind y =>
      simp only [Wid] at hw
      simp only [td] at hn
      obtain ⟨G, e⟩ := ih y L hw (by omega)
      exact ⟨G, by simp [Lib._law_size, enc, sz, inR_str2, at_end, e]⟩
    | cut t p c =>
      simp only [Wid] at hw
      simp only [td] at hn
      obtain ⟨G1, e1⟩ := ih p L hw.1 (by omega)
      obtain ⟨G2, e2⟩ := ih c (L ++ G1) hw.2 (by omega)
      exact ⟨G1 ++ G2, by simp [Lib._law_size, enc, sz, inR_str2, at_end, e1, e2]⟩
    | make k xs =>
      simp only [Wid] at hw
      simp only [td] at hn
      obtain ⟨G, e⟩ := many xs L 2 [some (enc (.make k xs)), some (.str 6), none, none] (by simp) hw.2 (by omega) (by omega)
      have s1 := su xs
      have s2 := sum_sz xs
      refine ⟨G ++ [.lst (xs.map fun x => .int (sz x))], ?_⟩
      simp [enc] at e
      simp [Lib._law_size, enc, sz, inR_str2, at_end, e, s1, s2]
    | call k xs =>
      simp only [Wid] at hw
      simp only [td] at hn
      obtain ⟨G, e⟩ := many xs L 2 [some (enc (.call k xs)), some (.str 12), none, none] (by simp) hw.2 (by omega) (by omega)
      have s1 := su xs
      have s2 := sum_sz xs
      refine ⟨G ++ [.lst (xs.map fun x => .int (sz x))], ?_⟩
      simp [enc] at e
      simp [Lib._law_size, enc, sz, inR_str2, at_end, e, s1, s2]
    | mtch xs =>
      simp only [Wid] at hw
      simp only [td] at hn
      obtain ⟨G, e⟩ := many xs L 3 [some (enc (.mtch xs)), some (.str 13), none, none] (by simp) hw.2 (by omega) (by omega)
      have s1 := su xs
      have s2 := sum_sz xs
      refine ⟨G ++ [.lst (xs.map fun x => .int (sz x))], ?_⟩
      simp [enc] at e
      simp [Lib._law_size, enc, sz, inR_str2, at_end, e, s1, s2]
theorem deep_ok : ∀ (n : Nat) (x : T) (L : LH), Wid x → td x ≤ n → ∃ G, run cfg n 96 [enc x] L = .ok (.int (td x)) (L ++ G) := by
  intro n
  induction n with
  | zero =>
    intro x L _ h
    have := td_pos x; omega
  | succ n ih =>
    intro x L hw hn
    have many : ∀ (xs : List T) (L : LH) (i : Nat) (ρ : Env), i < ρ.length → Wids xs → tds xs ≤ n → xs.length ≤ 4 → ∃ G, loopI (turnC cfg (run cfg n) (calls cfg n).2 (.name i) [i] [] (.call 96 [.var i]) ρ) (encs xs) [] L = .ok (.more (xs.map fun x => .int (td x))) (L ++ G) := by
      intro xs L i ρ hi hw ht hl
      obtain ⟨G, e⟩ := loop_map (step := turnC cfg (run cfg n) (calls cfg n).2 (.name i) [i] [] (.call 96 [.var i]) ρ) (toD := enc) (g := fun x => .int (td x)) (ks := xs) (fun x m acc L ha => by
        obtain ⟨G, e⟩ := ih x L (wids_mem hw m) (by have := tds_mem m; omega)
        have hm : acc.length < most := by unfold most; omega
        exact ⟨G, by simp [turnC_def, hi, e, hm]⟩) [] L (by simp; omega)
      rw [encs_map]
      exact ⟨G, by simpa using e⟩
    have su : ∀ xs : List T, intsOf (.int 0 :: xs.map fun x => D.int (td x)) = some (0 :: xs.map fun x => ((td x : Nat) : Int)) := by
      intro xs
      simp only [intsOf, intsOf_map (fun x : T => ((td x : Nat) : Int)) xs]
      rfl
    have mx : ∀ xs : List T, maxI 0 (xs.map fun x => ((td x : Nat) : Int)) = ((tds xs : Nat) : Int) := by
      intro xs
      have := maxI_td xs 0
      simpa using this
    rw [run_succ, runDef_of B.d96 rfl]
    cases x with
    | var k => exact ⟨[], by simp [Lib._law_deep, enc, td, inR_str2, at_end]⟩
    | stop k => exact ⟨[], by simp [Lib._law_deep, enc, td, inR_str2, at_end]⟩
    | bind y =>
      simp only [Wid] at hw
      simp only [td] at hn
      obtain ⟨G, e⟩ := ih y L hw (by omega)
      exact ⟨G, by simp [Lib._law_deep, enc, td, inR_str2, at_end, e]⟩
    | cut t p c =>
      simp only [Wid] at hw
      simp only [td] at hn
      obtain ⟨G1, e1⟩ := ih p L hw.1 (by omega)
      obtain ⟨G2, e2⟩ := ih c (L ++ G1) hw.2 (by omega)
      refine ⟨G1 ++ G2, ?_⟩
      simp [Lib._law_deep, enc, td, inR_str2, at_end, e1, e2]
      split <;> omega
    | make k xs =>
      simp only [Wid] at hw
      simp only [td] at hn
      obtain ⟨G, e⟩ := many xs (L ++ [.lst [.int 0]]) 2 [some (enc (.make k xs)), some (.str 6), none, none] (by simp) hw.2 (by omega) (by omega)
      have s1 := su xs
      have s2 := mx xs
      have hm : 1 + xs.length ≤ most := by unfold most; omega
      refine ⟨.lst [.int 0] :: G ++ [.lst (xs.map fun x => .int (td x)), .lst (.int 0 :: xs.map fun x => .int (td x))], ?_⟩
      simp [enc] at e
      simp [Lib._law_deep, enc, td, inR_str2, at_end, e, s1, s2, hm]
    | call k xs =>
      simp only [Wid] at hw
      simp only [td] at hn
      obtain ⟨G, e⟩ := many xs (L ++ [.lst [.int 0]]) 2 [some (enc (.call k xs)), some (.str 12), none, none] (by simp) hw.2 (by omega) (by omega)
      have s1 := su xs
      have s2 := mx xs
      have hm : 1 + xs.length ≤ most := by unfold most; omega
      refine ⟨.lst [.int 0] :: G ++ [.lst (xs.map fun x => .int (td x)), .lst (.int 0 :: xs.map fun x => .int (td x))], ?_⟩
      simp [enc] at e
      simp [Lib._law_deep, enc, td, inR_str2, at_end, e, s1, s2, hm]
    | mtch xs =>
      simp only [Wid] at hw
      simp only [td] at hn
      obtain ⟨G, e⟩ := many xs (L ++ [.lst [.int 0]]) 3 [some (enc (.mtch xs)), some (.str 13), none, none] (by simp) hw.2 (by omega) (by omega)
      have s1 := su xs
      have s2 := mx xs
      have hm : 1 + xs.length ≤ most := by unfold most; omega
      refine ⟨.lst [.int 0] :: G ++ [.lst (xs.map fun x => .int (td x)), .lst (.int 0 :: xs.map fun x => .int (td x))], ?_⟩
      simp [enc] at e
      simp [Lib._law_deep, enc, td, inR_str2, at_end, e, s1, s2, hm]
end
end Ap

end
section
set_option linter.all false
set_option maxRecDepth 100000
/-! A step of what is right is right. -/
namespace Ap
mutual
theorem lift_okT {P : Prog} {Γ F : List Slot} : ∀ (x : T) (s : Slot) (Δ : List Slot), okT P (Γ ++ Δ) s x → okT P (Γ ++ (F ++ Δ)) s (lift Γ.length F.length x)
  | .var k, s, Δ, h => by
    simp only [okT] at h
    simp only [lift]
    split
    · rename_i hk
      simp only [okT]
      rw [List.getElem?_append_right (by omega)] at h ⊢
      rw [List.getElem?_append_right (by omega)]
      rw [← h]
      congr 1
      omega
    · simp only [okT]
      rw [List.getElem?_append_left (by omega)] at h ⊢
      exact h
  | .bind y, s, Δ, h => by
    simp only [okT, lift, List.append_assoc] at h ⊢
    exact lift_okS y _ h
  | .make k as, s, Δ, h => by
    simp only [okT, lift] at h ⊢
    exact ⟨h.1, h.2.1, lift_okTs as _ Δ h.2.2⟩
  | .mtch ss, s, Δ, h => by
    simp only [okT, lift] at h ⊢
    exact ⟨h.1, lift_okBs ss _ Δ h.2⟩
  | .cut _ _ _, s, Δ, h => by simp [okT] at h
  | .call _ _, s, Δ, h => by simp [okT] at h
  | .stop _, s, Δ, h => by simp [okT] at h
theorem lift_okS {P : Prog} {Γ F : List Slot} : ∀ (x : T) (Δ : List Slot), okS P (Γ ++ Δ) x → okS P (Γ ++ (F ++ Δ)) (lift Γ.length F.length x)
  | .cut t p c, Δ, h => by
    simp only [okS, lift] at h ⊢
    exact ⟨h.1, lift_okT p _ Δ h.2.1, lift_okT c _ Δ h.2.2⟩
  | .call j as, Δ, h => by
    simp only [okS, lift] at h ⊢
    exact ⟨h.1, lift_okTs as _ Δ h.2⟩
  | .stop n, Δ, h => by simpa [okS, lift] using h
  | .var _, Δ, h => by simp [okS] at h
  | .bind _, Δ, h => by simp [okS] at h
  | .make _ _, Δ, h => by simp [okS] at h
  | .mtch _, Δ, h => by simp [okS] at h
theorem lift_okTs {P : Prog} {Γ F : List Slot} : ∀ (xs : List T) (sl : List Slot) (Δ : List Slot), okTs P (Γ ++ Δ) sl xs → okTs P (Γ ++ (F ++ Δ)) sl (lifts Γ.length F.length xs)
  | [], sl, Δ, h => by simpa [okTs, lifts] using h
  | x :: xs, sl, Δ, h => by
    simp only [okTs, lifts] at h ⊢
    obtain ⟨s, r, rfl, h1, h2⟩ := h
    exact ⟨s, r, rfl, lift_okT x s Δ h1, lift_okTs xs r Δ h2⟩
theorem lift_okBs {P : Prog} {Γ F : List Slot} : ∀ (xs : List T) (sh : List (List Slot)) (Δ : List Slot), okBs P (Γ ++ Δ) sh xs → okBs P (Γ ++ (F ++ Δ)) sh (lifts Γ.length F.length xs)
  | [], sh, Δ, h => by simpa [okBs, lifts] using h
  | x :: xs, sh, Δ, h => by
    simp only [okBs, lifts] at h ⊢
    obtain ⟨s, r, rfl, h1, h2⟩ := h
    refine ⟨s, r, rfl, ?_, lift_okBs xs r Δ h2⟩
    have := lift_okS (P := P) (Γ := Γ) (F := F) x (Δ ++ s) (by simpa using h1)
    simpa using this
end
mutual
theorem sub_okT {P : Prog} {Δ : List Slot} {as : List T} (ha : okTs P [] Δ as) : ∀ (x : T) (s : Slot) (E : List Slot), okT P (Δ ++ E) s x → okT P E s (subT P 0 as 0 s.2 E.length x)
  | .var k, s, E, h => by
    simp only [okT] at h
    have ll := okTs_len ha
    simp only [subT, subV_lift, if_neg (Nat.not_lt_zero k), Nat.sub_zero]
    by_cases hk : k < Δ.length
    · rw [List.getElem?_append_left hk] at h
      obtain ⟨s', a, q1, q2, q3, _⟩ := okTs_get ha hk
      rw [h] at q1
      injection q1 with q1
      subst q1
      rw [q2]
      have := lift_okT (P := P) (Γ := []) (F := E) a s [] (by simpa using q3)
      simpa using this
    · have : as[k]? = none := List.getElem?_eq_none (by omega)
      rw [this]
      rw [List.getElem?_append_right (by omega)] at h
      simp only [okT]
      rw [← h]
      congr 1
      omega
  | .bind y, s, E, h => by
    simp only [okT, subT, List.append_assoc] at h ⊢
    have := sub_okS ha y _ h
    simpa using this
  | .make k xs, s, E, h => by
    simp only [okT, subT] at h ⊢
    exact ⟨h.1, h.2.1, sub_okTs ha xs _ E h.2.2⟩
  | .mtch ss, s, E, h => by
    simp only [okT, subT] at h ⊢
    exact ⟨h.1, sub_okBs ha ss _ E h.2⟩
  | .cut _ _ _, s, E, h => by simp [okT] at h
  | .call _ _, s, E, h => by simp [okT] at h
  | .stop _, s, E, h => by simp [okT] at h
theorem sub_okS {P : Prog} {Δ : List Slot} {as : List T} (ha : okTs P [] Δ as) : ∀ (x : T) (E : List Slot), okS P (Δ ++ E) x → okS P E (subS P 0 as 0 E.length x)
  | .cut t p c, E, h => by
    simp only [okS, subS] at h ⊢
    exact ⟨h.1, sub_okT ha p (true, t) E h.2.1, sub_okT ha c (false, t) E h.2.2⟩
  | .call j xs, E, h => by
    simp only [okS, subS] at h ⊢
    exact ⟨h.1, sub_okTs ha xs _ E h.2⟩
  | .stop n, E, h => by simpa [okS, subS] using h
  | .var _, E, h => by simp [okS] at h
  | .bind _, E, h => by simp [okS] at h
  | .make _ _, E, h => by simp [okS] at h
  | .mtch _, E, h => by simp [okS] at h
theorem sub_okTs {P : Prog} {Δ : List Slot} {as : List T} (ha : okTs P [] Δ as) : ∀ (xs : List T) (sl : List Slot) (E : List Slot), okTs P (Δ ++ E) sl xs → okTs P E sl (subTs P 0 as 0 sl E.length xs)
  | [], sl, E, h => by simpa [okTs, subTs] using h
  | x :: xs, sl, E, h => by
    simp only [okTs] at h
    obtain ⟨s, r, rfl, h1, h2⟩ := h
    simp only [subTs, okTs]
    exact ⟨s, r, rfl, sub_okT ha x s E h1, sub_okTs ha xs r E h2⟩
theorem sub_okBs {P : Prog} {Δ : List Slot} {as : List T} (ha : okTs P [] Δ as) : ∀ (xs : List T) (sh : List (List Slot)) (E : List Slot), okBs P (Δ ++ E) sh xs → okBs P E sh (subBs P 0 as 0 sh E.length xs)
  | [], sh, E, h => by simpa [okBs, subBs] using h
  | x :: xs, sh, E, h => by
    simp only [okBs] at h
    obtain ⟨s, r, rfl, h1, h2⟩ := h
    simp only [subBs, okBs]
    refine ⟨s, r, rfl, ?_, sub_okBs ha xs r E h2⟩
    have := sub_okS ha x (E ++ s) (by simpa using h1)
    simpa using this
end
mutual
theorem pull_okT {P : Prog} {ctx : List Slot} (W : PWf P) : ∀ (x : T) (s : Slot) (q : Slot × T × T), okT P ctx s x → SlotOk P s → pullT P ctx.length s x = some q → SlotOk P q.1 ∧ okT P ctx q.1 q.2.1 ∧ okT P (ctx ++ [q.1]) s q.2.2
  | .bind y, s, q, h, hs, hq => by
    simp only [pullT] at hq
    split at hq
    · exact absurd hq (by simp)
    · injection hq with hq
      subst hq
      exact ⟨hs, h, by simp [okT]⟩
  | .make k as, s, q, h, hs, hq => by
    simp only [pullT] at hq
    obtain ⟨q', h1, rfl⟩ := Option.map_eq_some_iff.mp hq
    simp only [okT] at h
    obtain ⟨a1, a2, a3⟩ := pull_okTs W as _ q' h.2.2 W.shape h1
    exact ⟨a1, a2, by simp only [okT]; exact ⟨h.1, h.2.1, a3⟩⟩
  | .var _, s, q, h, hs, hq => by simp [pullT] at hq
  | .mtch _, s, q, h, hs, hq => by simp [pullT] at hq
  | .cut _ _ _, s, q, h, hs, hq => by simp [pullT] at hq
  | .call _ _, s, q, h, hs, hq => by simp [pullT] at hq
  | .stop _, s, q, h, hs, hq => by simp [pullT] at hq
theorem pull_okTs {P : Prog} {ctx : List Slot} (W : PWf P) : ∀ (xs : List T) (sl : List Slot) (q : Slot × T × List T), okTs P ctx sl xs → (∀ s ∈ sl, SlotOk P s) → pullTs P ctx.length sl xs = some q → SlotOk P q.1 ∧ okT P ctx q.1 q.2.1 ∧ okTs P (ctx ++ [q.1]) sl q.2.2
  | [], sl, q, h, hs, hq => by simp [pullTs] at hq
  | x :: xs, sl, q, h, hs, hq => by
    simp only [okTs] at h
    obtain ⟨s, r, rfl, h1, h2⟩ := h
    simp only [pullTs] at hq
    split at hq
    · rename_i q' h3
      injection hq with hq
      subst hq
      obtain ⟨a1, a2, a3⟩ := pull_okT W x s q' h1 (hs s List.mem_cons_self) h3
      refine ⟨a1, a2, ?_⟩
      simp only [okTs]
      refine ⟨s, r, rfl, a3, ?_⟩
      have := lift_okTs (P := P) (Γ := ctx) (F := [q'.1]) xs r [] (by simpa using h2)
      simpa using this
    · obtain ⟨q', h3, rfl⟩ := Option.map_eq_some_iff.mp hq
      obtain ⟨a1, a2, a3⟩ := pull_okTs W xs r q' h2 (fun y m => hs y (List.mem_cons_of_mem _ m)) h3
      refine ⟨a1, a2, ?_⟩
      simp only [okTs]
      refine ⟨s, r, rfl, ?_, a3⟩
      have := lift_okT (P := P) (Γ := ctx) (F := [q'.1]) x s [] (by simpa using h1)
      simpa using this
end
theorem mkCut_ok {P : Prog} {ctx : List Slot} {s : Slot} {x y : T} (hs : SlotOk P s) (hx : okT P ctx s x) (hy : okS P (ctx ++ [s]) y) : okS P ctx (mkCut s x y) := by
  obtain ⟨b, t⟩ := s
  unfold mkCut
  cases b
  · simp only [Bool.false_eq_true, if_false, okS, okT]
    exact ⟨hs, by simpa using hy, hx⟩
  · simp only [if_true, okS, okT]
    exact ⟨hs, hx, by simpa using hy⟩
theorem join_ok {P : Prog} {ctx : List Slot} {t : Nat} {m w : T} (ht : t < P.decls.length) (hm : okT P ctx (P.makes t, t) m) (hw : okT P ctx (!P.makes t, t) w) : okS P ctx (P.join t m w) := by
  unfold Prog.join
  revert hm hw
  cases P.makes t
  · intro hm hw
    simp only [Bool.false_eq_true, if_false, okS]
    exact ⟨ht, hw, hm⟩
  · intro hm hw
    simp only [if_true, okS]
    exact ⟨ht, hm, hw⟩
theorem third_keeps {P : Prog} (W : PWf P) {ctx : List Slot} {s x : T} (h : okS P ctx s) (hx : thirdT P ctx.length s = some x) : okS P ctx x := by
  cases s with
  | call j xs =>
    simp only [okS] at h
    simp only [thirdT] at hx
    obtain ⟨q, h1, rfl⟩ := Option.map_eq_some_iff.mp hx
    obtain ⟨a1, a2, a3⟩ := pull_okTs W xs _ q h.2 (W.par j) h1
    exact mkCut_ok a1 a2 (by simp only [okS]; exact ⟨h.1, a3⟩)
  | cut t p c =>
    simp only [okS] at h
    obtain ⟨h0, h1, h2⟩ := h
    obtain ⟨k1, k2⟩ := sides_okT h1 h2
    simp only [thirdT] at hx
    generalize (P.sides t p c).1 = m at *
    generalize (P.sides t p c).2 = w at *
    cases m with
    | make k as =>
      simp only [thirdC] at hx
      obtain ⟨q, h3, rfl⟩ := Option.map_eq_some_iff.mp hx
      simp only [okT] at k1
      obtain ⟨a1, a2, a3⟩ := pull_okTs W as _ q k1.2.2 W.shape h3
      refine mkCut_ok a1 a2 (join_ok h0 (by simp only [okT]; exact ⟨trivial, k1.2.1, a3⟩) ?_)
      have := lift_okT (P := P) (Γ := ctx) (F := [q.1]) w _ [] (by simpa using k2)
      simpa using this
    | _ => simp [thirdC] at hx
  | _ => simp [thirdT] at hx
theorem sub_ok0 {P : Prog} {Δ : List Slot} {as : List T} {x : T} (ha : okTs P [] Δ as) (h : okS P Δ x) : okS P [] (subS P 0 as 0 0 x) := by
  have := sub_okS ha x [] (by simpa using h)
  simpa using this
theorem reduced_keeps {P : Prog} (W : PWf P) {s x : T} (h : okS P [] s) (hx : reducedT P 0 s = some x) : okS P [] x := by
  cases s with
  | call j xs =>
    simp only [okS] at h
    simp only [reducedT] at hx
    split at hx
    · injection hx with hx
      subst hx
      exact sub_ok0 h.2 (W.bod j h.1)
    · exact absurd hx (by simp)
  | cut t p c =>
    simp only [okS] at h
    obtain ⟨h0, h1, h2⟩ := h
    obtain ⟨k1, k2⟩ := sides_okT h1 h2
    simp only [reducedT] at hx
    generalize (P.sides t p c).1 = m at *
    generalize (P.sides t p c).2 = w at *
    have one : ∀ {s : Slot} {a : T}, okT P [] s a → okTs P [] [s] [a] := by
      intro s a h
      simp only [okTs]
      exact ⟨s, [], rfl, h, rfl⟩
    rcases maker_is k1 with ⟨y, rfl⟩ | ⟨k, as, rfl⟩
    · simp only [reducedC] at hx
      injection hx with hx
      subst hx
      simp only [okT] at k1
      exact sub_ok0 (one k2) (by simpa using k1)
    · simp only [reducedC] at hx
      split at hx
      · rcases taker_is k2 with ⟨y, rfl⟩ | ⟨ss, rfl⟩
        · simp only [Option.some.injEq] at hx
          subst hx
          simp only [okT] at k2
          exact sub_ok0 (one k1) (by simpa using k2)
        · simp only [okT] at k1 k2
          obtain ⟨y, h3, rfl⟩ := Option.map_eq_some_iff.mp hx
          obtain ⟨s', q1, q2, _⟩ := okBs_mem k2.2 h3
          have q3 := P.shape_at k1.2.1
          rw [q1] at q3
          injection q3 with q3
          subst q3
          exact sub_ok0 k1.2.2 (by simpa using q2)
      · exact absurd hx (by simp)
  | _ => simp [reducedT] at hx
theorem step_keeps {P : Prog} (W : PWf P) {s : T} {r : Bool × T} (h : okS P [] s) (hr : stepT P s = some r) : okS P [] r.2 := by
  unfold stepT at hr
  split at hr
  · rename_i x hx
    injection hr with hr
    subst hr
    exact third_keeps W h hx
  · obtain ⟨x, hx, rfl⟩ := Option.map_eq_some_iff.mp hr
    exact reduced_keeps W h hx
end Ap

end
section
set_option linter.all false
set_option maxRecDepth 100000
set_option maxHeartbeats 1000000
/-! The law's walk of statements. -/
namespace Ap
open Ev
mutual
theorem td_lift {b d : Nat} : ∀ x : T, td (lift b d x) = td x
  | .var k => by simp only [lift]; split <;> rfl
  | .stop n => rfl
  | .bind s => by simp only [lift, td, td_lift s]
  | .make h as => by simp only [lift, td, tds_lift as]
  | .mtch ss => by simp only [lift, td, tds_lift ss]
  | .cut t p c => by simp only [lift, td, td_lift p, td_lift c]
  | .call j as => by simp only [lift, td, tds_lift as]
theorem tds_lift {b d : Nat} : ∀ xs : List T, tds (lifts b d xs) = tds xs
  | [] => rfl
  | x :: xs => by simp only [lifts, tds, td_lift x, tds_lift xs]
end
section
variable {P : Prog} {f : Nat} {as : List T} {l : Nat}
mutual
theorem td_subS : ∀ (x : T) (i : Nat), td (subS P f as l i x) ≤ td x + tds as
  | .cut t p c, i => by
    have h1 := td_subT p t i
    have h2 := td_subT c t i
    simp only [subS, td]
    omega
  | .call j xs, i => by
    have h1 := td_subTs xs (P.params j) i
    simp only [subS, td]
    omega
  | .stop n, i => by simp [subS]
  | .var _, i => by simp [subS]
  | .bind _, i => by simp [subS]
  | .make _ _, i => by simp [subS]
  | .mtch _, i => by simp [subS]
theorem td_subT : ∀ (x : T) (t i : Nat), td (subT P f as l t i x) ≤ td x + tds as
  | .var k, t, i => by
    simp only [subT, subV_lift]
    split
    · simp only [td]; omega
    · cases h : as[k - f]? with
      | none => simp only [td]; omega
      | some a =>
        have := tds_mem (List.mem_of_getElem? h)
        simp only [td_lift]
        omega
  | .bind y, t, i => by
    have h1 := td_subS y (i + 1)
    simp only [subT, td]
    omega
  | .make k xs, t, i => by
    have h1 := td_subTs xs (P.shape t k) i
    simp only [subT, td]
    omega
  | .mtch xs, t, i => by
    have h1 := td_subBs xs (P.shapes t) i
    simp only [subT, td]
    omega
  | .cut _ _ _, t, i => by simp [subT]
  | .call _ _, t, i => by simp [subT]
  | .stop _, t, i => by simp [subT]
theorem td_subTs : ∀ (xs : List T) (sl : List Slot) (i : Nat), tds (subTs P f as l sl i xs) ≤ tds xs + tds as
  | [], sl, i => by simp [subTs, tds]
  | x :: xs, [], i => by simp [subTs, tds]
  | x :: xs, s :: r, i => by
    have h1 := td_subT x s.2 i
    have h2 := td_subTs xs r i
    simp only [subTs, tds]
    omega
theorem td_subBs : ∀ (xs : List T) (sl : List (List Slot)) (i : Nat), tds (subBs P f as l sl i xs) ≤ tds xs + tds as
  | [], sl, i => by simp [subBs, tds]
  | x :: xs, [], i => by simp [subBs, tds]
  | x :: xs, s :: r, i => by
    have h1 := td_subS x (i + s.length)
    have h2 := td_subBs xs r i
    simp only [subBs, tds]
    omega
end
end
mutual
theorem td_pullT {P : Prog} {n : Nat} : ∀ (x : T) (s : Slot) (q : Slot × T × T), pullT P n s x = some q → td q.2.1 ≤ td x ∧ td q.2.2 ≤ td x
  | .bind y, s, q, hq => by
    simp only [pullT] at hq
    split at hq
    · exact absurd hq (by simp)
    · injection hq with hq
      subst hq
      simp only [td]
      omega
  | .make k as, s, q, hq => by
    simp only [pullT] at hq
    obtain ⟨q', h1, rfl⟩ := Option.map_eq_some_iff.mp hq
    have := td_pullTs as _ q' h1
    simp only [td]
    omega
  | .var _, s, q, hq => by simp [pullT] at hq
  | .mtch _, s, q, hq => by simp [pullT] at hq
  | .cut _ _ _, s, q, hq => by simp [pullT] at hq
  | .call _ _, s, q, hq => by simp [pullT] at hq
  | .stop _, s, q, hq => by simp [pullT] at hq
theorem td_pullTs {P : Prog} {n : Nat} : ∀ (xs : List T) (sl : List Slot) (q : Slot × T × List T), pullTs P n sl xs = some q → td q.2.1 ≤ tds xs ∧ tds q.2.2 ≤ tds xs
  | [], sl, q, hq => by simp [pullTs] at hq
  | x :: xs, [], q, hq => by simp [pullTs] at hq
  | x :: xs, s :: r, q, hq => by
    simp only [pullTs] at hq
    split at hq
    · rename_i q' h3
      injection hq with hq
      subst hq
      have := td_pullT x s q' h3
      simp only [tds, tds_lift]
      omega
    · obtain ⟨q', h3, rfl⟩ := Option.map_eq_some_iff.mp hq
      have := td_pullTs xs r q' h3
      simp only [tds, td_lift]
      omega
end
theorem td_mkCut {s : Slot} {x y : T} : td (mkCut s x y) ≤ 2 + max (td x) (td y) := by
  unfold mkCut
  split <;> simp only [td] <;> omega
theorem td_join {P : Prog} {t : Nat} {m w : T} : td (P.join t m w) = 1 + max (td m) (td w) := by
  unfold Prog.join
  split <;> simp only [td] <;> omega
theorem td_third {P : Prog} {n : Nat} {s x : T} (hx : thirdT P n s = some x) : td x ≤ td s + 2 := by
  cases s with
  | call j xs =>
    simp only [thirdT] at hx
    obtain ⟨q, h1, rfl⟩ := Option.map_eq_some_iff.mp hx
    have h2 := td_pullTs _ _ _ h1
    have h3 := td_mkCut (s := q.1) (x := q.2.1) (y := .call j q.2.2)
    simp only [td] at h3 ⊢
    omega
  | cut t p c =>
    simp only [thirdT] at hx
    obtain ⟨d1, d2⟩ := sides_td (P := P) (t := t) (p := p) (c := c)
    generalize (P.sides t p c).1 = m at *
    generalize (P.sides t p c).2 = w at *
    cases m with
    | make k as =>
      simp only [thirdC] at hx
      obtain ⟨q, h3, rfl⟩ := Option.map_eq_some_iff.mp hx
      have h2 := td_pullTs _ _ _ h3
      have h3 := td_mkCut (s := q.1) (x := q.2.1) (y := P.join t (.make k q.2.2) (lift n 1 w))
      rw [td_join, td_lift] at h3
      simp only [td] at h3 d1 ⊢
      omega
    | _ => simp [thirdC] at hx
  | _ => simp [thirdT] at hx
theorem td_reduced {P : Prog} {s x : T} {Db : Nat} (hb : ∀ j, td (P.body j) ≤ Db) (h : okS P [] s) (hx : reducedT P 0 s = some x) : td x ≤ 2 * td s + Db := by
  cases s with
  | call j xs =>
    simp only [reducedT] at hx
    split at hx
    · injection hx with hx
      subst hx
      have h1 := td_subS (P := P) (f := 0) (as := xs) (l := 0) (P.body j) 0
      have := hb j
      simp only [td]
      omega
    · exact absurd hx (by simp)
  | cut t p c =>
    simp only [okS] at h
    obtain ⟨h0, h1, h2⟩ := h
    obtain ⟨k1, k2⟩ := sides_okT h1 h2
    obtain ⟨d1, d2⟩ := sides_td (P := P) (t := t) (p := p) (c := c)
    simp only [reducedT] at hx
    generalize (P.sides t p c).1 = m at *
    generalize (P.sides t p c).2 = w at *
    simp only [td]
    rcases maker_is k1 with ⟨y, rfl⟩ | ⟨k, as, rfl⟩
    · simp only [reducedC] at hx
      injection hx with hx
      subst hx
      have h1 := td_subS (P := P) (f := 0) (as := [w]) (l := 0) y 0
      simp only [td, tds] at h1 d1
      omega
    · simp only [reducedC] at hx
      split at hx
      · rcases taker_is k2 with ⟨y, rfl⟩ | ⟨ss, rfl⟩
        · simp only [Option.some.injEq] at hx
          subst hx
          have h1 := td_subS (P := P) (f := 0) (as := [.make k as]) (l := 0) y 0
          simp only [td, tds] at h1 d1 d2
          omega
        · simp only [okT] at k1 k2
          obtain ⟨y, h3, rfl⟩ := Option.map_eq_some_iff.mp hx
          obtain ⟨s', q1, q2, q3⟩ := okBs_mem k2.2 h3
          have h1 := td_subS (P := P) (f := 0) (as := as) (l := 0) y 0
          simp only [td, tds] at h1 d1 d2
          omega
      · exact absurd hx (by simp)
  | _ => simp [reducedT] at hx
theorem td_step {P : Prog} {s : T} {r : Bool × T} {Db : Nat} (hb : ∀ j, td (P.body j) ≤ Db) (h : okS P [] s) (hr : stepT P s = some r) : td r.2 ≤ 2 * td s + Db + 2 := by
  unfold stepT at hr
  split at hr
  · rename_i x hx
    injection hr with hr
    subst hr
    have := td_third hx
    simp only
    omega
  · obtain ⟨x, hx, rfl⟩ := Option.map_eq_some_iff.mp hr
    have := td_reduced hb h hx
    simp only
    omega
/-- small enough to go on -/
def small (x : T) : Bool := decide (td x ≤ 60) && decide (sz x ≤ 1500)
/-- the steps, as far as they are small -/
def walkT (P : Prog) : Nat → T → List (Bool × T)
  | 0, _ => []
  | n + 1, s => match stepT P s with
    | some r => if small r.2 then r :: walkT P n r.2 else []
    | none => []
theorem walkT_len {P : Prog} : ∀ (n : Nat) (s : T), (walkT P n s).length ≤ n
  | 0, s => Nat.le_refl _
  | n + 1, s => by
    simp only [walkT]
    split
    · split
      · rename_i r _ _
        have := walkT_len (P := P) n r.2
        simp; omega
      · simp
    · simp
section
variable {cfg : Cfg} (B : Base cfg) {P : Prog}
include B
theorem small_ok {n : Nat} {x : T} {L : LH} (hw : Wid x) (hn : td x + 1 ≤ n) : ∃ G, run cfg n 165 [enc x] L = .ok (.bl (small x)) (L ++ G) := by
  obtain ⟨n, rfl⟩ : ∃ m, n = m + 1 := ⟨n - 1, by omega⟩
  rw [run_succ, runDef_of B.d165 rfl]
  obtain ⟨G1, e1⟩ := deep_ok B n x L hw (by omega)
  obtain ⟨G2, e2⟩ := size_ok B n x (L ++ G1) hw (by omega)
  unfold small
  by_cases h : td x ≤ 60
  · refine ⟨G1 ++ G2, ?_⟩
    have h' : ((td x : Nat) : Int) ≤ 60 := by omega
    simp [Lib._law_small2, e1, e2, h, h']
    omega
  · refine ⟨G1, ?_⟩
    have h' : ¬ ((td x : Nat) : Int) ≤ 60 := by omega
    simp [Lib._law_small2, e1, h, h']
end
end Ap

end
section
set_option linter.all false
set_option maxRecDepth 100000
set_option maxHeartbeats 1000000
/-! The law's walk of statements, second part. -/
namespace Ap
open Ev
theorem at_two {L : LH} {a b : LO} {G : LH} : (L ++ a :: b :: G)[L.length + 1]? = some b := by
  rw [List.getElem?_append_right (by omega)]
  simp
theorem set_two {L : LH} {a b o : LO} {G : LH} : (L ++ a :: b :: G).set (L.length + 1) o = L ++ a :: o :: G := by
  rw [List.set_append_right _ _ (by omega)]
  simp
@[simp] theorem idxR_ref {L : LH} {n : Nat} {i : Int} : idxR L (.ref n) (.int i) = match L[n]? with
    | some (.lst xs) => atI xs i
    | some (.dic kvs) => (match keyOf (.int i) with
      | some k => getK k kvs
      | none => none)
    | _ => none := id rfl
section
variable {cfg : Cfg} (B : Base cfg) {P : Prog}
include B
theorem statements_loop (W : PWf P) {Db n : Nat} (hb : ∀ j, td (P.body j) ≤ Db) (hn : 2 * 60 + Db + 7 ≤ n) {L0 : LH} {r1 : Option D} :
    ∀ (m k : Nat) (s : T) (S K : List D) (G : LH) (r2 r5 : Option D), S.length = k + 1 → S[k]? = some (enc s) → K.length = k → k + m ≤ 1000 → okS P [] s → td s ≤ 60 →
      ∃ G' r2' r5', (loopI (turnF cfg (run cfg n) (calls cfg n).2 (.name 2) [.set 5 (.call 163 [.var 0, .idx (.var 3) (.var 2)]), .ite (.or (.isn false (.var 5)) (.not (.call 165 [.idx (.var 5) (.int 1)]))) [.brk] [], .expr (.bm .append (.var 4) [.idx (.var 5) (.int 0)]), .expr (.bm .append (.var 3) [.idx (.var 5) (.int 1)])])
        ((List.range' k m).map fun (i : Nat) => D.int (i : Int)) [some (eProg P), r1, r2, some (.ref L0.length), some (.ref (L0.length + 1)), r5] (L0 ++ .lst S :: .lst K :: G)).bind endF
        = .ok (.nx [some (eProg P), r1, r2', some (.ref L0.length), some (.ref (L0.length + 1)), r5']) (L0 ++ .lst (S ++ (walkT P m s).map fun r => enc r.2) :: .lst (K ++ (walkT P m s).map fun r => .bl r.1) :: G')
  | 0, k, s, S, K, G, r2, r5, _, _, _, _, _, _ => ⟨G, r2, r5, by simp [loopI, walkT]⟩
  | m + 1, k, s, S, K, G, r2, r5, hS, hk, hK, hm, ho, hd => by
    obtain ⟨G1, e1⟩ := stepped_ok B W (Db := Db) (n := n) (L := L0 ++ .lst S :: .lst K :: G) hb ho (by omega)
    have e3 : (L0 ++ LO.lst S :: .lst K :: G) ++ G1 = L0 ++ LO.lst S :: .lst K :: (G ++ G1) := by simp
    rw [e3] at e1
    simp only [List.range'_succ, List.map_cons, loopI, walkT]
    have a1 : atI S (k : Int) = some (enc s) := by rw [atI_nat, hk]
    cases hs : stepT P s with
    | none =>
      rw [hs] at e1
      simp only at e1
      exact ⟨G ++ G1, some (.int k), some .non, by simp [turnF_def, at_end, a1, e1]⟩
    | some r =>
      rw [hs] at e1
      simp only at e1
      have ok2 := step_keeps W ho hs
      have td2 := td_step hb ho hs
      obtain ⟨G2, e2⟩ := small_ok B (n := n) (x := r.2) (L := L0 ++ .lst S :: .lst K :: (G ++ G1)) (okS_wid W r.2 _ ok2) (by omega)
      have e4 : (L0 ++ LO.lst S :: .lst K :: (G ++ G1)) ++ G2 = L0 ++ LO.lst S :: .lst K :: (G ++ G1 ++ G2) := by simp
      rw [e4] at e2
      have m1 : K.length < most := by unfold most; omega
      have m2 : S.length < most := by unfold most; omega
      rcases Bool.eq_false_or_eq_true (small r.2) with h | h
      · rw [h] at e2
        have h60 : td r.2 ≤ 60 := by
          unfold small at h
          simp only [Bool.and_eq_true, decide_eq_true_eq] at h
          exact h.1
        obtain ⟨G3, q2, q5, e5⟩ := statements_loop W hb hn (r1 := r1) (L0 := L0) m (k + 1) r.2 (S ++ [enc r.2]) (K ++ [.bl r.1]) (G ++ G1 ++ G2) (some (.int k)) (some (.tup [.bl r.1, enc r.2])) (by simp; omega) (by rw [List.getElem?_append_right (by omega), hS]; simp) (by simp; omega) (by omega) ok2 h60
        refine ⟨G3, q2, q5, ?_⟩
        simp [turnF_def, at_end, at_two, set_end, set_two, a1, e1, e2, bmOk, bmR, m1, m2]
        simp at e5
        simp [e5, h]
      · rw [h] at e2
        refine ⟨G ++ G1 ++ G2, some (.int k), some (.tup [.bl r.1, enc r.2]), ?_⟩
        simp [turnF_def, at_end, a1, e1, h]
        simp at e2
        simp [e2]
theorem statements_ok (h166 : cfg.defs 166 = some Lib._law_statements) (W : PWf P) {Db n M : Nat} (hb : ∀ j, td (P.body j) ≤ Db) (hD : Db ≤ 60) (hn : 2 * 60 + Db + 8 ≤ n) (hM : M ≤ 900) {L : LH} :
    ∃ G, run cfg n 166 [eProg P, .int M] L = .ok (.tup [.ref L.length, .ref (L.length + 1)]) (L ++ .lst (enc (P.body 0) :: (walkT P M (P.body 0)).map fun r => enc r.2) :: .lst ((walkT P M (P.body 0)).map fun r => .bl r.1) :: G) := by
  obtain ⟨n, rfl⟩ : ∃ m, n = m + 1 := ⟨n - 1, by omega⟩
  rw [run_succ, runDef_of h166 rfl]
  obtain ⟨d, hd, _, e0⟩ := prog_params B W.one
  have ok0 : okS P [] (P.body 0) := by
    have := W.bod 0 W.one
    rwa [W.nop] at this
  obtain ⟨G, q2, q5, e⟩ := statements_loop B W (n := n) hb (by omega) (L0 := L) (r1 := some (.int M)) M 0 (P.body 0) [enc (P.body 0)] [] [] none none rfl rfl rfl (by omega) ok0 (by have := hb 0; omega)
  have src : ∀ L, srcR .rng1 L [.int (M : Int)] = _ := fun L => srcR_rng (by omega)
  rw [← List.range_eq_range'] at e
  refine ⟨G, ?_⟩
  simp [eProg, eDefs] at e
  simp [Lib._law_statements, eProg, eDefs, hd, eDef, e0, src, e]
end
end Ap

end
section
set_option linter.all false
set_option maxRecDepth 100000
set_option maxHeartbeats 1000000
/-! The program's way to the first term that is not plain. -/
namespace Ap
open Ev
mutual
def fuT (P : Prog) (s : Slot) : T → Option (List Nat × Slot × T)
  | .bind x => if s.1 != P.makes s.2 then none else some ([], s, .bind x)
  | .make h as => (fuTs P (P.shape s.2 h) 0 as).map fun q => (q.1.1 :: q.1.2, q.2)
  | _ => none
def fuTs (P : Prog) (sl : List Slot) (k : Nat) : List T → Option ((Nat × List Nat) × Slot × T)
  | [] => none
  | x :: xs => match sl with
    | [] => none
    | s :: r => match fuT P s x with
      | some q => some ((k, q.1), q.2)
      | none => fuTs P r (k + 1) xs
end
/-- a term put at a path -/
def putA (y : T) : Nat → List Nat → List T → List T
  | a, [], xs => xs.set a y
  | a, b :: p, xs => xs.set a (match xs[a]? with
    | some (.make h as) => .make h (putA y b p as)
    | _ => y)
def PathIn : Nat → List Nat → List T → Prop
  | a, [], xs => a < xs.length
  | a, b :: p, xs => ∃ h as, xs[a]? = some (.make h as) ∧ PathIn b p as
theorem lifts_map' {b d : Nat} : ∀ l : List T, lifts b d l = l.map (lift b d)
  | [] => rfl
  | x :: xs => by rw [lifts, lifts_map' xs, List.map_cons]
theorem lifts_length {b d : Nat} {l : List T} : (lifts b d l).length = l.length := by rw [lifts_map', List.length_map]
theorem lifts_get {b d k : Nat} {l : List T} : (lifts b d l)[k]? = (l[k]?).map (lift b d) := by rw [lifts_map', List.getElem?_map]
mutual
theorem fuT_pull {P : Prog} {n : Nat} : ∀ (x : T) (s : Slot), match fuT P s x with
    | none => pullT P n s x = none
    | some ([], q) => pullT P n s x = some (q.1, q.2, .var n)
    | some (a :: p, q) => ∃ h as, x = .make h as ∧ pullT P n s x = some (q.1, q.2, .make h (putA (.var n) a p (lifts n 1 as))) ∧ PathIn a p (lifts n 1 as)
  | .bind y, s => by
    simp only [fuT, pullT]
    cases s.1 != P.makes s.2 <;> rfl
  | .make h as, s => by
    have e := fuTs_pull (P := P) (n := n) as (P.shape s.2 h) 0
    simp only [fuT, pullT]
    cases hf : fuTs P (P.shape s.2 h) 0 as with
    | none =>
      rw [hf] at e
      simp only at e
      simp only [Option.map_none, e]
    | some q =>
      rw [hf] at e
      obtain ⟨i, h1, h2, h3⟩ := e
      have h1' : q.1.1 = i := by omega
      simp only [Option.map_some, h1', h2]
      exact ⟨h, as, rfl, rfl, h3⟩
  | .var _, s => by simp only [fuT, pullT]
  | .mtch _, s => by simp only [fuT, pullT]
  | .cut _ _ _, s => by simp only [fuT, pullT]
  | .call _ _, s => by simp only [fuT, pullT]
  | .stop _, s => by simp only [fuT, pullT]
theorem fuTs_pull {P : Prog} {n : Nat} : ∀ (xs : List T) (sl : List Slot) (k : Nat), match fuTs P sl k xs with
    | none => pullTs P n sl xs = none
    | some q => ∃ i, q.1.1 = k + i ∧ pullTs P n sl xs = some (q.2.1, q.2.2, putA (.var n) i q.1.2 (lifts n 1 xs)) ∧ PathIn i q.1.2 (lifts n 1 xs)
  | [], sl, k => by simp only [fuTs, pullTs]
  | x :: xs, [], k => by simp only [fuTs, pullTs]
  | x :: xs, s :: r, k => by
    have e1 := fuT_pull (P := P) (n := n) x s
    have e2 := fuTs_pull (P := P) (n := n) xs r (k + 1)
    simp only [fuTs, pullTs]
    cases hf : fuT P s x with
    | none =>
      rw [hf] at e1
      simp only at e1
      simp only [e1]
      cases hg : fuTs P r (k + 1) xs with
      | none =>
        rw [hg] at e2
        simp only at e2
        simp only [e2, Option.map_none]
      | some q =>
        rw [hg] at e2
        obtain ⟨i, h1, h2, h3⟩ := e2
        refine ⟨i + 1, by omega, ?_, ?_⟩
        · simp only [h2, Option.map_some]
          congr 3
          cases q.1.2 <;> simp [putA, lifts]
        · cases hq : q.1.2 with
          | nil => rw [hq] at h3; simp only [PathIn] at h3 ⊢; simp [lifts]; exact h3
          | cons b p => rw [hq] at h3; simp only [PathIn] at h3 ⊢; simpa [lifts] using h3
    | some q =>
      rw [hf] at e1
      obtain ⟨p, q2⟩ := q
      cases p with
      | nil =>
        simp only at e1
        simp only [e1]
        exact ⟨0, rfl, by simp [putA, lifts], by simp [PathIn, lifts]⟩
      | cons a p =>
        simp only at e1
        obtain ⟨h, as, rfl, h2, h3⟩ := e1
        simp only [h2]
        exact ⟨0, rfl, by simp [putA, lifts, lift], by simp only [PathIn, lifts, lift]; exact ⟨h, lifts n 1 as, by simp, h3⟩⟩
end
mutual
theorem fuT_len {P : Prog} : ∀ (x : T) (s : Slot) (q : List Nat × Slot × T), fuT P s x = some q → q.1.length + 1 ≤ td x
  | .bind y, s, q, h => by
    simp only [fuT] at h
    split at h
    · exact absurd h (by simp)
    · injection h with h
      subst h
      simp only [td, List.length_nil]; omega
  | .make k as, s, q, h => by
    simp only [fuT] at h
    obtain ⟨q', h1, rfl⟩ := Option.map_eq_some_iff.mp h
    have := fuTs_len as _ _ q' h1
    simp only [td, List.length_cons]; omega
  | .var _, s, q, h => by simp [fuT] at h
  | .mtch _, s, q, h => by simp [fuT] at h
  | .cut _ _ _, s, q, h => by simp [fuT] at h
  | .call _ _, s, q, h => by simp [fuT] at h
  | .stop _, s, q, h => by simp [fuT] at h
theorem fuTs_len {P : Prog} : ∀ (xs : List T) (sl : List Slot) (k : Nat) (q : (Nat × List Nat) × Slot × T), fuTs P sl k xs = some q → q.1.2.length + 1 ≤ tds xs
  | [], sl, k, q, h => by simp [fuTs] at h
  | x :: xs, [], k, q, h => by simp [fuTs] at h
  | x :: xs, s :: r, k, q, h => by
    simp only [fuTs] at h
    split at h
    · rename_i q' h1
      injection h with h
      subst h
      have := fuT_len x s q' h1
      simp only [tds]; omega
    · have := fuTs_len xs r _ q h
      simp only [tds]; omega
end
/-- a path as data -/
def ePath (p : List Nat) : D := .tup (p.map fun (i : Nat) => .int (i : Int))
def eFound : Option ((Nat × List Nat) × Slot × T) → D
  | none => .non
  | some q => .tup [ePath (q.1.1 :: q.1.2), eSlot q.2.1, enc q.2.2]
@[simp] theorem binR_tup {L : LH} {xs ys : List D} : binR .add L (.tup xs) (.tup ys) = if xs.length + ys.length ≤ most then .ok (.tup (xs ++ ys)) L else .bad := id rfl
section
variable {cfg : Cfg} (B : Base cfg) {w : Nat} {P : Prog}
include B
theorem first_loop (W : PWf P) {n : Nat} {L : LH} {sl0 ctx : List Slot} {xs0 : List T} (hw : WAt L w P) (hn : 2 * tds xs0 + 3 ≤ n) (hn2 : n ≤ 1000)
    (ih : ∀ (xs : List T) (sl : List Slot), okTs P ctx sl xs → (∀ s ∈ sl, SlotOk P s) → 2 * tds xs + 4 ≤ n → run cfg n 65 [.ref w, eSlots sl, .tup (encs xs)] L = .ok (eFound (fuTs P sl 0 xs)) L) :
    ∀ (xs : List T) (sl : List Slot) (k : Nat) (r3 r4 r5 r6 : Option D), xs0.drop k = xs → okTs P ctx sl xs → (∀ s ∈ sl, SlotOk P s) → ∃ r3' r4' r5' r6',
      loopI (turnF cfg (run cfg n) (calls cfg n).2 (.tup [.name 3, .name 4]) [.set 5 (.idx (.var 2) (.var 3)), .ite (.and (.cmp .eq (.idx (.var 5) (.int 0)) (.str 5)) (.not (.mth (.var 0) 10 [.var 4, .var 5]))) [.ret (.tup [.tup [.var 3], .var 4, .var 5])] [], .ite (.cmp .eq (.idx (.var 5) (.int 0)) (.str 6)) [.set 6 (.call 65 [.var 0, .idx (.mth (.var 0) 11 [.idx (.var 4) (.int 1)]) (.idx (.var 5) (.int 1)), .idx (.var 5) (.int 2)]), .ite (.isn true (.var 6)) [.ret (.tup [.bin .add (.tup [.var 3]) (.idx (.var 6) (.int 0)), .idx (.var 6) (.int 1), .idx (.var 6) (.int 2)])] []] []])
        (nums k (sl.map eSlot)) [some (.ref w), some (.tup (sl0.map eSlot)), some (.tup (encs xs0)), r3, r4, r5, r6] L
      = .ok (match fuTs P sl k xs with
        | none => .more [some (.ref w), some (.tup (sl0.map eSlot)), some (.tup (encs xs0)), r3', r4', r5', r6']
        | some q => .done (.ret (.tup [ePath (q.1.1 :: q.1.2), eSlot q.2.1, enc q.2.2]))) L
  | [], sl, k, r3, r4, r5, r6, hd, ho, hs => by
    simp only [okTs] at ho
    subst ho
    exact ⟨r3, r4, r5, r6, by simp [nums, loopI, fuTs]⟩
  | x :: xs, [], k, r3, r4, r5, r6, hd, ho, hs => by simp [okTs] at ho
  | x :: xs, s :: r, k, r3, r4, r5, r6, hd, ho, hs => by
    obtain ⟨g1, g2⟩ := drop_cons hd
    have hx := tds_mem (List.mem_of_getElem? g1)
    simp only [okTs] at ho
    obtain ⟨_, _, e0, o1, o2⟩ := ho
    injection e0 with e0 e0'
    subst e0 e0'
    have so := hs s List.mem_cons_self
    have hw' := hw
    unfold WAt at hw'
    have go := fun a b c d => first_loop (sl0 := sl0) W hw hn hn2 ih xs r (k + 1) a b c d g2 o2 (fun y m => hs y (List.mem_cons_of_mem _ m))
    simp only [List.map_cons, nums, loopI, fuTs]
    cases x with
    | var v =>
      obtain ⟨a, b, c, d, e⟩ := go (some (.int k)) (some (eSlot s)) (some (enc (.var v))) r6
      refine ⟨a, b, c, d, ?_⟩
      simp [enc] at e
      simp [turnF_def, fuT, enc, encs_get, g1, e]
    | mtch v =>
      obtain ⟨a, b, c, d, e⟩ := go (some (.int k)) (some (eSlot s)) (some (enc (.mtch v))) r6
      refine ⟨a, b, c, d, ?_⟩
      simp [enc] at e
      simp [turnF_def, fuT, enc, encs_get, g1, e]
    | bind y =>
      have pl := (plain_ok B W hw n).1 (.bind y) s ctx so o1 (by omega)
      obtain ⟨a, b, c, d, e⟩ := go (some (.int k)) (some (eSlot s)) (some (enc (.bind y))) r6
      refine ⟨a, b, c, d, ?_⟩
      simp only [isPlain] at pl
      simp [enc] at pl e
      rcases Bool.eq_false_or_eq_true (s.1 != P.makes s.2) with hp | hp
      · rw [hp] at pl
        simp [turnF_def, fuT, enc, encs_get, g1, hw', B.m0_10, pl, hp, e]
      · rw [hp] at pl
        simp [turnF_def, fuT, enc, encs_get, g1, hw', B.m0_10, pl, hp, ePath]
    | make h as =>
      simp only [okT] at o1
      obtain ⟨j1, j2, j3⟩ := o1
      simp only [td] at hx
      obtain ⟨m, rfl⟩ : ∃ m, n = m + 1 := ⟨n - 1, by omega⟩
      have e0 := shapes_ok B (n := m) hw so
      have at1 := P.shape_at j2
      have e1 := ih as (P.shape s.2 h) j3 W.shape (by omega)
      cases hf : fuTs P (P.shape s.2 h) 0 as with
      | none =>
        rw [hf] at e1
        obtain ⟨a, b, c, d, e⟩ := go (some (.int k)) (some (eSlot s)) (some (enc (.make h as))) (some .non)
        refine ⟨a, b, c, d, ?_⟩
        simp [enc, eSlot] at e
        simp [eFound] at e1
        simp [turnF_def, fuT, enc, eSlot, encs_get, g1, hw', B.m0_11, e0, at1, e1, hf, e]
      | some q =>
        rw [hf] at e1
        have hl := fuTs_len as _ _ q hf
        refine ⟨none, none, none, none, ?_⟩
        have hm : 1 + (q.1.2.length + 1) ≤ most := by unfold most; omega
        simp [eFound, ePath, eSlot] at e1
        simp [turnF_def, fuT, enc, eSlot, encs_get, g1, hw', B.m0_11, e0, at1, e1, hf, ePath, hm]
    | _ => simp [okT] at o1
theorem first_ok (W : PWf P) {L : LH} {ctx : List Slot} (hw : WAt L w P) : ∀ (n : Nat) (xs : List T) (sl : List Slot), n ≤ 1000 → okTs P ctx sl xs → (∀ s ∈ sl, SlotOk P s) → 2 * tds xs + 4 ≤ n → run cfg n 65 [.ref w, eSlots sl, .tup (encs xs)] L = .ok (eFound (fuTs P sl 0 xs)) L := by
  intro n
  induction n with
  | zero =>
    intro xs sl _ _ _ h
    omega
  | succ n ih =>
    intro xs sl hn2 ho hs hn
    rw [run_succ, runDef_of B.d65 rfl]
    obtain ⟨a, b, c, d, e⟩ := first_loop B W (sl0 := sl) hw (by omega) (by omega) (fun xs sl h1 h2 h3 => ih xs sl (by omega) h1 h2 h3) xs sl 0 none none none none rfl ho hs
    simp [Lib.first_unplain, eSlots, e]
    cases fuTs P sl 0 xs <;> simp [eFound]
/-- a path is short, and its rows too -/
theorem withArg_ok {y : T} {L : LH} : ∀ (n : Nat) (p : List Nat) (a : Nat) (xs : List T), p.length + 1 ≤ n → n ≤ 1000 → Wids xs → xs.length ≤ 4 → PathIn a p xs → run cfg n 66 [.tup (encs xs), ePath (a :: p), enc y] L = .ok (.tup (encs (putA y a p xs))) L := by
  intro n
  induction n with
  | zero =>
    intro p a xs h
    omega
  | succ n ih =>
    intro p a xs hn hn2 hw hl hp
    rw [run_succ, runDef_of B.d66 rfl]
    have al : a < xs.length := by
      cases p with
      | nil => exact hp
      | cons b p =>
        obtain ⟨h, as, h1, _⟩ := hp
        exact (List.getElem?_eq_some_iff.mp h1).1
    have fin : ∀ z : T, encs (xs.set a z) = (encs xs).take a ++ enc z :: (encs xs).drop (a + 1) := by
      intro z
      rw [encs_map, encs_map, List.map_set, List.set_eq_take_append_cons_drop, if_pos (by simpa using al)]
    have i1 : (a : Int) < 1000000000 := by omega
    have i2 : (a : Int) + 1 < 1000000000 := by omega
    have i3 : ((a : Int) + 1).toNat = a + 1 := by omega
    have i4 : (0 : Int) ≤ (a : Int) + 1 := by omega
    have l1 : ((encs xs).take a).length ≤ 4 := by rw [List.length_take, encs_length]; omega
    have l2 : ((encs xs).drop (a + 1)).length ≤ 4 := by rw [List.length_drop, encs_length]; omega
    have m1 : min a (encs xs).length + 1 ≤ most := by unfold most; rw [encs_length]; omega
    have m2 : min a (encs xs).length + (1 + ((encs xs).length - (a + 1))) ≤ most := by unfold most; rw [encs_length]; omega
    have m3 : min a (encs xs).length + 1 + ((encs xs).length - (a + 1)) ≤ most := by unfold most; rw [encs_length]; omega
    cases p with
    | nil => simp [Lib.with_arg, ePath, putA, fin, sliR, i1, i2, i3, i4, m1, m2, m3]
    | cons b p =>
      obtain ⟨h, as, h1, h2⟩ := hp
      have hx := wids_mem hw (List.mem_of_getElem? h1)
      simp only [Wid] at hx
      have e := ih p b as (by simpa using hn) (by omega) hx.2 (by omega) h2
      have c1 : (1 : Int) < ((p.length + 1 : Nat) : Int) + 1 := by omega
      simp [ePath] at e c1
      simp [Lib.with_arg, ePath, putA, fin, sliR, i1, i2, i3, i4, m1, m2, m3, encs_get, h1, enc, e, c1]
end
end Ap

end
section
set_option linter.all false
set_option maxRecDepth 100000
set_option maxHeartbeats 1000000
/-! The program's third step. -/
namespace Ap
open Ev
def liftedC (P : Prog) (n t : Nat) (m w : T) : Option (Slot × T × T) := match m with
  | .make h as => (pullTs P n (P.shape t h) as).map fun q => (q.1, q.2.1, P.join t (.make h q.2.2) (lift n 1 w))
  | _ => none
def liftedT (P : Prog) (n : Nat) : T → Option (Slot × T × T)
  | .call j xs => (pullTs P n (P.params j) xs).map fun q => (q.1, q.2.1, .call j q.2.2)
  | .cut t p c => liftedC P n t (P.sides t p c).1 (P.sides t p c).2
  | _ => none
theorem thirdT_lifted {P : Prog} {n : Nat} {s : T} : thirdT P n s = (liftedT P n s).map fun q => mkCut q.1 q.2.1 q.2.2 := by
  cases s with
  | call j xs =>
    simp only [thirdT, liftedT, Option.map_map]
    rfl
  | cut t p c =>
    simp only [thirdT, liftedT]
    generalize (P.sides t p c).1 = m
    cases m <;> simp only [thirdC, liftedC, Option.map_map, Option.map_none]
    rfl
  | _ => rfl
theorem sides_lift {P : Prog} {b d t : Nat} {p c : T} : P.sides t (lift b d p) (lift b d c) = (lift b d (P.sides t p c).1, lift b d (P.sides t p c).2) := by
  unfold Prog.sides
  split <;> rfl
def unplC (P : Prog) (t : Nat) (m : T) : Option ((Nat × List Nat) × Slot × T) := match m with
  | .make h as => fuTs P (P.shape t h) 0 as
  | _ => none
def unplT (P : Prog) : T → Option ((Nat × List Nat) × Slot × T)
  | .call j xs => fuTs P (P.params j) 0 xs
  | .cut t p c => unplC P t (P.sides t p c).1
  | _ => none
theorem lifts_wids {b d : Nat} {xs : List T} (h : Wids xs) : Wids (lifts b d xs) := by
  have one : ∀ x : T, Wid x → Wid (lift b d x) := by
    intro x
    exact (T.rec (motive_1 := fun x => Wid x → Wid (lift b d x)) (motive_2 := fun xs => Wids xs → Wids (lifts b d xs))
      (fun k _ => by simp only [lift]; split <;> trivial)
      (fun s ih h => by simp only [lift, Wid] at h ⊢; exact ih h)
      (fun k as ih h => by simp only [lift, Wid] at h ⊢; exact ⟨by rw [lifts_length]; exact h.1, ih h.2⟩)
      (fun ss ih h => by simp only [lift, Wid] at h ⊢; exact ⟨by rw [lifts_length]; exact h.1, ih h.2⟩)
      (fun t p c ih1 ih2 h => by simp only [lift, Wid] at h ⊢; exact ⟨ih1 h.1, ih2 h.2⟩)
      (fun j as ih h => by simp only [lift, Wid] at h ⊢; exact ⟨by rw [lifts_length]; exact h.1, ih h.2⟩)
      (fun n h => h) (fun h => h) (fun x xs ih1 ih2 h => by simp only [lifts, Wids] at h ⊢; exact ⟨ih1 h.1, ih2 h.2⟩) x)
  induction xs with
  | nil => exact h
  | cons x xs ih =>
    simp only [lifts, Wids] at h ⊢
    exact ⟨one x h.1, ih h.2⟩
section
variable {cfg : Cfg} (B : Base cfg) {w : Nat} {P : Prog}
include B
theorem unplain_ok (W : PWf P) {L : LH} {ctx : List Slot} {n : Nat} {s : T} (hw : WAt L w P) (ho : okS P ctx s) (hn : 2 * td s + 5 ≤ n) (hn2 : n ≤ 1000) : run cfg n 67 [.ref w, enc s] L = .ok (eFound (unplT P s)) L := by
  obtain ⟨m, rfl⟩ : ∃ m, n = m + 3 := ⟨n - 3, by omega⟩
  have hw' := hw
  unfold WAt at hw'
  rw [run_succ, runDef_of B.d67 rfl]
  cases s with
  | stop k => simp [Lib.unplain_in, enc, unplT, eFound]
  | call j xs =>
    simp only [okS] at ho
    simp only [td] at hn
    have e0 := params_ok B (n := m + 1) hw ho.1
    have e1 := first_ok B W hw (m + 2) xs _ (by omega) ho.2 (W.par j) (by omega)
    simp [Lib.unplain_in, enc, unplT, hw', B.m0_21, e0, e1]
  | cut t p c =>
    simp only [okS] at ho
    obtain ⟨h0, h1, h2⟩ := ho
    obtain ⟨k1, k2⟩ := sides_okT h1 h2
    obtain ⟨d1, d2⟩ := sides_td (P := P) (t := t) (p := p) (c := c)
    simp only [td] at hn
    have sd := sides_ok B (P := P) (n := m) (p := p) (c := c) hw h0
    have e0 := shapes_ok B (n := m + 1) hw h0
    simp only [unplT]
    generalize (P.sides t p c).1 = x at *
    simp [enc] at sd
    cases x with
    | make h as =>
      simp only [okT] at k1
      obtain ⟨j1, j2, j3⟩ := k1
      simp only [td] at d1
      have at1 := P.shape_at j2
      have e1 := first_ok B W hw (m + 2) as _ (by omega) j3 W.shape (by omega)
      simp [enc] at sd
      simp [Lib.unplain_in, enc, unplC, hw', B.m0_40, B.m0_11, sd, e0, at1, e1]
    | _ =>
      simp [enc] at sd
      simp [Lib.unplain_in, enc, unplC, hw', B.m0_40, sd, eFound]
  | _ => simp [okS] at ho
/-- the statement, where what was found is taken out -/
theorem without_ok (W : PWf P) {L : LH} {ctx : List Slot} {n : Nat} {s : T} {q : (Nat × List Nat) × Slot × T} (hw : WAt L w P) (ho : okS P ctx s) (hq : unplT P s = some q) (hn : 2 * td s + 6 ≤ n) (hn2 : n ≤ 1000) :
    ∃ y G, liftedT P ctx.length s = some (q.2.1, q.2.2, y) ∧ run cfg n 68 [.ref w, enc s, ePath (q.1.1 :: q.1.2), .int (ctx.length : Int)] L = .ok (enc y) (L ++ G) := by
  obtain ⟨m, rfl⟩ : ∃ m, n = m + 3 := ⟨n - 3, by omega⟩
  obtain ⟨G, e1⟩ := put_ok B W (n := m + 2) (N := 0) (f := ctx.length) (as := []) (l := ctx.length + 1) ho ⟨by simp, fun k s hk => absurd hk (by simp)⟩ hw (by omega)
  rw [reliftS s ctx 0 ho] at e1
  have hw2 := hw.app (G := G)
  have hw' := hw
  have hw3 := hw2
  unfold WAt at hw' hw3
  rw [run_succ, runDef_of B.d68 rfl]
  cases s with
  | call j xs =>
    simp only [okS] at ho
    simp only [td] at hn
    simp only [unplT] at hq
    have lk := fuTs_pull (P := P) (n := ctx.length) xs (P.params j) 0
    have hl := fuTs_len _ _ _ _ hq
    rw [hq] at lk
    obtain ⟨i, h1, h2, h3⟩ := lk
    have h1' : q.1.1 = i := by omega
    have ll := okTs_len ho.2
    have l3 := W.pal j
    have e2 := withArg_ok B (y := .var ctx.length) (L := L ++ G) (m + 2) q.1.2 i (lifts ctx.length 1 xs) (by omega) (by omega) (lifts_wids (okTs_wid W _ _ _ ho.2)) (by rw [lifts_length]; omega) h3
    refine ⟨.call j (putA (.var ctx.length) i q.1.2 (lifts ctx.length 1 xs)), G, by simp only [liftedT, h2, Option.map_some], ?_⟩
    simp [enc, encs, lift] at e1 e2
    simp [Lib.without_arg, enc, h1', e1, e2]
  | cut t p c =>
    simp only [okS] at ho
    obtain ⟨h0, h1, h2⟩ := ho
    obtain ⟨k1, k2⟩ := sides_okT h1 h2
    obtain ⟨d1, d2⟩ := sides_td (P := P) (t := t) (p := p) (c := c)
    simp only [td] at hn
    have sd := sides_ok B (P := P) (n := m) (p := lift ctx.length 1 p) (c := lift ctx.length 1 c) hw2 h0
    rw [sides_lift] at sd
    simp only [unplT] at hq
    simp only [liftedT]
    generalize (P.sides t p c).1 = x at *
    generalize (P.sides t p c).2 = v at *
    cases x with
    | make h as =>
      simp only [okT] at k1
      obtain ⟨j1, j2, j3⟩ := k1
      simp only [td] at d1
      simp only [unplC] at hq
      have lk := fuTs_pull (P := P) (n := ctx.length) as (P.shape t h) 0
      have hl := fuTs_len _ _ _ _ hq
      rw [hq] at lk
      obtain ⟨i, h1, h2, h3⟩ := lk
      have h1' : q.1.1 = i := by omega
      have ll := okTs_len j3
      have l3 := W.shl t h
      have e2 := withArg_ok B (y := .var ctx.length) (L := L ++ G) (m + 2) q.1.2 i (lifts ctx.length 1 as) (by omega) (by omega) (lifts_wids (okTs_wid W _ _ _ j3)) (by rw [lifts_length]; omega) h3
      have e3 := cut_ok B (n := m) (P := P) (m := enc (.make h (putA (.var ctx.length) i q.1.2 (lifts ctx.length 1 as)))) (o := enc (lift ctx.length 1 v)) hw2 h0
      refine ⟨P.join t (.make h (putA (.var ctx.length) i q.1.2 (lifts ctx.length 1 as))) (lift ctx.length 1 v), G, by simp only [liftedC, h2, Option.map_some], ?_⟩
      simp [enc, encs, lift] at e1 e2 e3 sd
      simp [Lib.without_arg, enc, h1', e1, e2, sd, hw3, B.m0_40, B.m0_7, e3, Prog.join]
      cases P.makes t <;> simp [enc]
    | _ => simp [unplC] at hq
  | _ => simp [unplT] at hq
end
end Ap

end
section
set_option linter.all false
set_option maxRecDepth 100000
set_option maxHeartbeats 1000000
/-! The program's step. -/
namespace Ap
open Ev
theorem lifted_none {P : Prog} {n : Nat} {s : T} (h : unplT P s = none) : liftedT P n s = none := by
  cases s with
  | call j xs =>
    simp only [unplT] at h
    have lk := fuTs_pull (P := P) (n := n) xs (P.params j) 0
    rw [h] at lk
    simp only at lk
    simp only [liftedT, lk, Option.map_none]
  | cut t p c =>
    simp only [unplT] at h
    simp only [liftedT]
    generalize (P.sides t p c).1 = m at *
    cases m with
    | make k as =>
      simp only [unplC] at h
      have lk := fuTs_pull (P := P) (n := n) as (P.shape t k) 0
      rw [h] at lk
      simp only at lk
      simp only [liftedC, lk, Option.map_none]
    | _ => rfl
  | _ => rfl
theorem one_ok {P : Prog} {s : Slot} {a : T} (h : okT P [] s a) : okTs P [] [s] [a] := by
  simp only [okTs]
  exact ⟨s, [], rfl, h, rfl⟩
section
variable {cfg : Cfg} (B : Base cfg) {w : Nat} {P : Prog}
include B
theorem lifted_ok (W : PWf P) {L : LH} {ctx : List Slot} {n : Nat} {s : T} (hw : WAt L w P) (ho : okS P ctx s) (hn : 2 * td s + 7 ≤ n) (hn2 : n ≤ 1000) :
    ∃ G, run cfg n 69 [.ref w, enc s, .int (ctx.length : Int)] L = .ok (match liftedT P ctx.length s with | some q => .tup [eSlot q.1, enc q.2.1, enc q.2.2] | none => .non) (L ++ G) := by
  obtain ⟨m, rfl⟩ : ∃ m, n = m + 1 := ⟨n - 1, by omega⟩
  rw [run_succ, runDef_of B.d69 rfl]
  have e1 := unplain_ok B W (n := m) hw ho (by omega) (by omega)
  cases hq : unplT P s with
  | none =>
    rw [hq] at e1
    rw [lifted_none hq]
    simp only [eFound] at e1
    exact ⟨[], by simp [Lib.lifted, e1]⟩
  | some q =>
    obtain ⟨y, G, h1, e2⟩ := without_ok B W (n := m) hw ho hq (by omega) (by omega)
    rw [hq] at e1
    rw [h1]
    simp [eFound, ePath] at e1 e2
    exact ⟨G, by simp [Lib.lifted, e1, e2]⟩
theorem cutof_ok {n : Nat} {s : Slot} {x y : T} {L : LH} : run cfg (n + 1) 70 [eSlot s, enc x, enc y] L = .ok (enc (mkCut s x y)) L := by
  rw [run_succ, runDef_of B.d70 rfl]
  unfold mkCut
  cases h : s.1 <;> simp [Lib.cut_of, eSlot, eSide, h, enc]
theorem called_ok (W : PWf P) {Db n j : Nat} {xs : List T} {L : LH} (hw : WAt L w P) (hb : ∀ j, td (P.body j) ≤ Db) (ho : okS P [] (.call j xs)) (hn : 2 * td (.call j xs) + 2 * Db + 7 ≤ n) :
    ∃ G, run cfg n 146 [.ref w, enc (.call j xs), .int 0] L = .ok (match reducedT P 0 (.call j xs) with | some x => enc x | none => .non) (L ++ G) := by
  obtain ⟨m, rfl⟩ : ∃ m, n = m + 2 := ⟨n - 2, by omega⟩
  have hw' := hw
  unfold WAt at hw'
  simp only [okS] at ho
  simp only [td] at hn
  have e0 := params_ok B (n := m) hw ho.1
  have e5 := body_ok B (n := m) hw ho.1
  have e1 := (plain_ok B W hw (m + 1)).2 xs _ [] (W.par j) ho.2 (by omega)
  have hc := ctx_of B (w := w) W (l := 0) (N := 2 * tds xs + 4) (ctx := []) rfl ho.2 (W.par j) (by omega)
  have hj := hb j
  obtain ⟨G, e2⟩ := put_ok B W (n := m + 1) (W.bod j ho.1) hc hw (by omega)
  rw [run_succ, runDef_of B.d146 rfl]
  simp only [reducedT]
  rcases Bool.eq_false_or_eq_true (arePlain P (P.params j) xs) with h4 | h4 <;> rw [h4] at e1
  · rw [if_pos h4]
    refine ⟨G, ?_⟩
    simp at e2
    simp [Lib.called, enc, hw', B.m0_8, B.m0_21, B.m0_42, e0, e5, e1, e2]
  · rw [if_neg (by simp [h4])]
    exact ⟨[], by simp [Lib.called, enc, hw', B.m0_8, B.m0_21, B.m0_42, e0, e1]⟩
theorem rules_ok (W : PWf P) {n t : Nat} {p c : T} {L : LH} (hw : WAt L w P) (ho : okS P [] (.cut t p c)) (hn : 4 * td (.cut t p c) + 9 ≤ n) :
    (∃ y v, P.sides t p c = (.bind y, v) ∧ ∃ G, run cfg n 143 [.ref w, enc (.cut t p c), .int 0] L = .ok (enc (subS P 0 [v] 0 0 y)) (L ++ G)) ∨
    (∃ h as v, P.sides t p c = (.make h as, v) ∧ run cfg n 143 [.ref w, enc (.cut t p c), .int 0] L = .ok .non L ∧
      ((∃ y, v = .bind y ∧ (isPlain P (P.makes t, t) (.make h as) = true → ∃ G, run cfg n 144 [.ref w, enc (.cut t p c), .int 0] L = .ok (enc (subS P 0 [.make h as] 0 0 y)) (L ++ G))) ∨
       (∃ ss y, v = .mtch ss ∧ ss[h]? = some y ∧ run cfg n 144 [.ref w, enc (.cut t p c), .int 0] L = .ok .non L ∧ (isPlain P (P.makes t, t) (.make h as) = true → ∃ G, run cfg n 145 [.ref w, enc (.cut t p c), .int 0] L = .ok (enc (subS P 0 as 0 0 y)) (L ++ G))))) := by
  obtain ⟨m, rfl⟩ : ∃ m, n = m + 3 := ⟨n - 3, by omega⟩
  have hw' := hw
  unfold WAt at hw'
  simp only [okS] at ho
  obtain ⟨h0, h1, h2⟩ := ho
  simp only [td] at hn
  obtain ⟨k1, k2⟩ := sides_okT h1 h2
  obtain ⟨d1, d2⟩ := sides_td (P := P) (t := t) (p := p) (c := c)
  have sd := sides_ok B (P := P) (n := m) (p := p) (c := c) hw h0
  have mk := making_ok B (P := P) (n := m + 1) hw h0
  have s1 : ∀ a b, P.sides t p c = (a, b) ↔ ((P.sides t p c).1 = a ∧ (P.sides t p c).2 = b) := fun a b => Prod.ext_iff
  simp only [s1]
  generalize (P.sides t p c).1 = x at *
  generalize (P.sides t p c).2 = v at *
  have ps : SlotOk P (P.makes t, t) := h0
  have ps' : SlotOk P (!P.makes t, t) := h0
  rcases maker_is k1 with ⟨y, rfl⟩ | ⟨h, as, rfl⟩
  · left
    refine ⟨y, v, ⟨rfl, rfl⟩, ?_⟩
    simp only [okT] at k1
    simp only [td] at d1
    have hc := ctx_of B (w := w) W (l := 0) (N := 2 * td v + 4) (ctx := []) rfl (one_ok k2) (by simpa using ps') (by simp [tds])
    obtain ⟨G, e2⟩ := put_ok B W (n := m + 2) (x := y) (by simpa using k1) hc hw (by omega)
    rw [run_succ, runDef_of B.d143 rfl]
    refine ⟨G, ?_⟩
    simp [enc, encs] at e2 sd
    simp [Lib.bound, enc, hw', B.m0_40, sd, e2]
  · right
    refine ⟨h, as, v, ⟨rfl, rfl⟩, ?_, ?_⟩
    · rw [run_succ, runDef_of B.d143 rfl]
      simp [enc] at sd
      simp [Lib.bound, enc, hw', B.m0_40, sd]
    · have pl := (plain_ok B W hw (m + 2)).1 (.make h as) (P.makes t, t) [] ps k1 (by omega)
      rcases taker_is k2 with ⟨y, rfl⟩ | ⟨ss, rfl⟩
      · left
        refine ⟨y, rfl, fun hp => ?_⟩
        rw [hp] at pl
        simp only [okT] at k2
        simp only [td] at d1 d2
        have hc := ctx_of B (w := w) W (l := 0) (N := 2 * td (.make h as) + 4) (ctx := []) rfl (one_ok k1) (by simpa using ps) (by simp [tds])
        obtain ⟨G, e2⟩ := put_ok B W (n := m + 2) (x := y) (by simpa using k2) hc hw (by simp only [td]; omega)
        rw [run_succ, runDef_of B.d144 rfl]
        refine ⟨G, ?_⟩
        simp [enc, encs, eSlot] at e2 sd pl
        simp [Lib.handed, enc, hw', B.m0_40, B.m0_10, B.m0_9, mk, sd, pl, e2]
      · right
        simp only [okT] at k1 k2
        have l5 := okBs_len k2.2
        have l6 : h < ss.length := by omega
        have g1 : ss[h]? = some ss[h] := List.getElem?_eq_getElem l6
        refine ⟨ss, ss[h], rfl, g1, ?_, fun hp => ?_⟩
        · rw [run_succ, runDef_of B.d144 rfl]
          simp [enc] at sd
          simp [Lib.handed, enc, hw', B.m0_40, sd]
        · rw [hp] at pl
          simp only [td] at d1 d2
          obtain ⟨s', q1, q2, q3⟩ := okBs_mem k2.2 g1
          have q4 := P.shape_at k1.2.1
          rw [q1] at q4
          injection q4 with q4
          subst q4
          have hc := ctx_of B (w := w) W (l := 0) (N := 2 * tds as + 4) (ctx := []) rfl k1.2.2 W.shape (by omega)
          obtain ⟨G, e2⟩ := put_ok B W (n := m + 2) (x := ss[h]) q2 hc hw (by omega)
          have h9 : (encs ss)[h]'(by rw [encs_length]; exact l6) = enc ss[h] := by simp [encs_map]
          rw [run_succ, runDef_of B.d145 rfl]
          refine ⟨G, ?_⟩
          simp [enc, encs, eSlot] at e2 sd pl
          simp [Lib.matched_up, enc, hw', B.m0_40, B.m0_10, B.m0_9, mk, sd, pl, encs_length, l6, h9, e2]
/-- what is after a statement -/
theorem after_ok (W : PWf P) {Db n : Nat} {s : T} {L : LH} (hw : WAt L w P) (hb : ∀ j, td (P.body j) ≤ Db) (ho : okS P [] s) (hn : 4 * td s + 2 * Db + 12 ≤ n) (hn2 : n ≤ 1000) :
    ∃ G, run cfg n 147 [.ref w, enc s] L = .ok (match stepT P s with | some r => enc r.2 | none => .non) (L ++ G) := by
  obtain ⟨n, rfl⟩ : ∃ m, n = m + 3 := ⟨n - 3, by omega⟩
  have hw' := hw
  unfold WAt at hw'
  obtain ⟨G1, e1⟩ := lifted_ok B W (n := n + 2) (ctx := []) (s := s) hw ho (by omega) (by omega)
  have hw2 := hw.app (G := G1)
  have hw3 := hw2
  unfold WAt at hw3
  rw [run_succ, runDef_of B.d147 rfl]
  simp only [stepT, thirdT_lifted]
  cases s with
  | stop k => exact ⟨[], by simp [Lib.after, enc, liftedT, reducedT]⟩
  | call j xs =>
    obtain ⟨G2, e2⟩ := called_ok B W (n := n + 2) (L := L ++ G1) hw2 hb ho (by omega)
    simp only [List.length_nil] at e1
    cases hl : liftedT P 0 (.call j xs) with
    | some q =>
      rw [hl] at e1
      have e3 := cutof_ok B (n := n + 1) (s := q.1) (x := q.2.1) (y := q.2.2) (L := L ++ G1)
      refine ⟨G1, ?_⟩
      simp [enc, eSlot] at e1 e3
      simp [Lib.after, enc, e1, e3]
    | none =>
      rw [hl] at e1
      refine ⟨G1 ++ G2, ?_⟩
      simp [enc] at e1 e2
      cases hr : reducedT P 0 (.call j xs) with
      | some x =>
        rw [hr] at e2
        simp at e2
        simp [Lib.after, enc, e1, e2]
      | none =>
        rw [hr] at e2
        simp at e2
        simp [Lib.after, enc, e1, e2]
  | cut t p c =>
    have ho' := ho
    simp only [okS] at ho
    obtain ⟨h0, h1, h2⟩ := ho
    have sd := sides_ok B (P := P) (n := n) (p := p) (c := c) hw2 h0
    simp only [List.length_nil] at e1
    rcases rules_ok B W (n := n + 2) (L := L ++ G1) hw2 ho' (by omega) with ⟨y, v, hs, G2, e2⟩ | ⟨h, as, v, hs, e2, e3⟩
    · have hl : liftedT P 0 (.cut t p c) = none := by simp only [liftedT, hs, liftedC]
      rw [hl] at e1 ⊢
      refine ⟨G1 ++ G2, ?_⟩
      simp only [reducedT, hs, reducedC]
      obtain ⟨l, hy⟩ : ∃ l, enc (subS P 0 [v] 0 0 y) = .tup l := by cases subS P 0 [v] 0 0 y <;> exact ⟨_, rfl⟩
      rw [hy] at e2
      simp only [Option.map_none, Option.map_some, hy]
      simp [enc] at e1 e2
      simp [Lib.after, enc, e1, B.g123, B.g125, B.g127, loopI, turnF_def, B.v61, e2]
    · rw [hs] at sd
      cases hl : liftedT P 0 (.cut t p c) with
      | some q =>
        rw [hl] at e1
        have e4 := cutof_ok B (n := n + 1) (s := q.1) (x := q.2.1) (y := q.2.2) (L := L ++ G1)
        refine ⟨G1, ?_⟩
        simp [enc, eSlot] at e1 e4 sd
        simp [Lib.after, enc, e1, e4, hw3, B.m0_40, sd]
      | none =>
        rw [hl] at e1
        have hp : isPlain P (P.makes t, t) (.make h as) = true := by
          simp only [liftedT, hs, liftedC, Option.map_eq_none_iff] at hl
          simp only [isPlain]
          rw [← pullTs_none (n := 0), hl]
          rfl
        rcases e3 with ⟨y, rfl, e3⟩ | ⟨ss, y, rfl, g1, e3, e4⟩
        · obtain ⟨G2, e3⟩ := e3 hp
          refine ⟨G1 ++ G2, ?_⟩
          simp only [reducedT, hs, reducedC, if_pos hp]
          obtain ⟨l, hy⟩ : ∃ l, enc (subS P 0 [.make h as] 0 0 y) = .tup l := by cases subS P 0 [.make h as] 0 0 y <;> exact ⟨_, rfl⟩
          rw [hy] at e3
          simp only [Option.map_none, Option.map_some, hy]
          simp [enc] at e1 e2 e3
          simp [Lib.after, enc, e1, B.g123, B.g125, B.g127, loopI, turnF_def, B.v61, B.v62, e2, e3]
        · obtain ⟨G2, e4⟩ := e4 hp
          refine ⟨G1 ++ G2, ?_⟩
          simp only [reducedT, hs, reducedC, if_pos hp, g1]
          obtain ⟨l, hy⟩ : ∃ l, enc (subS P 0 as 0 0 y) = .tup l := by cases subS P 0 as 0 0 y <;> exact ⟨_, rfl⟩
          rw [hy] at e4
          simp only [Option.map_none, Option.map_some, hy]
          simp [enc] at e1 e2 e3 e4
          simp [Lib.after, enc, e1, B.g123, B.g125, B.g127, loopI, turnF_def, B.v61, B.v62, B.v63, e2, e3, e4]
  | _ => simp [okS] at ho
end
end Ap

end
section
set_option linter.all false
set_option maxRecDepth 100000
set_option maxHeartbeats 1000000
/-! The program's measure. -/
namespace Ap
open Ev
def kids : T → List T
  | .cut _ p c => [p, c]
  | .call _ as => as
  | .make _ as => as
  | .bind s => [s]
  | .mtch ss => ss
  | _ => []
theorem szs_app : ∀ (a b : List T), szs (a ++ b) = szs a + szs b
  | [], b => by simp [szs]
  | x :: a, b => by simp only [List.cons_append, szs, szs_app a b]; omega
theorem tds_app : ∀ (a b : List T), tds (a ++ b) = max (tds a) (tds b)
  | [], b => by simp [tds]
  | x :: a, b => by simp only [List.cons_append, tds, tds_app a b]; omega
theorem sz_kids (x : T) : sz x = 1 + szs (kids x) := by
  cases x <;> simp [sz, kids, szs] <;> omega
theorem td_kids (x : T) : td x = 1 + tds (kids x) := by
  cases x <;> simp [td, kids, tds]
theorem szs_kids : ∀ ts : List T, szs ts = ts.length + szs (ts.flatMap kids)
  | [] => rfl
  | x :: ts => by
    have := szs_kids ts
    simp only [szs, List.flatMap_cons, List.length_cons, szs_app, sz_kids x]
    omega
theorem tds_kids : ∀ ts : List T, ts ≠ [] → tds ts = 1 + tds (ts.flatMap kids)
  | [], h => absurd rfl h
  | [x], _ => by simp [tds, tds_app, td_kids x]
  | x :: y :: ts, _ => by
    have h := tds_kids (y :: ts) (by simp)
    rw [List.flatMap_cons, tds_app, tds, td_kids x, h]
    omega
theorem length_szs : ∀ ts : List T, ts.length ≤ szs ts
  | [] => Nat.le_refl _
  | x :: ts => by
    have := length_szs ts
    have := sz_kids x
    simp only [szs, List.length_cons]
    omega
theorem loopL_keep {step : D → List D → LH → R (Step (List D) Unit)} {n : Nat} {L : LH} {xs : List T} {f : T → List D} (h : L[n]? = some (.lst (encs xs))) :
    ∀ (ys : List T) (i : Nat) (acc : List D), xs.drop i = ys → (∀ (y : T) (acc : List D), y ∈ ys → acc.length + (f y).length ≤ 100000 → step (enc y) acc L = .ok (.more (acc ++ f y)) L) → acc.length + (ys.flatMap f).length ≤ 100000 → loopL step n (ys.length + 1) i acc L = .ok (.more (acc ++ ys.flatMap f)) L
  | [], i, acc, hd, hs, hl => by
    have : (encs xs)[i]? = none := by
      have := List.drop_eq_nil_iff.mp hd
      exact List.getElem?_eq_none (by rw [encs_length]; exact this)
    simp only [loopL, h, this, List.flatMap_nil, List.append_nil]
  | y :: ys, i, acc, hd, hs, hl => by
    obtain ⟨g1, g2⟩ := drop_cons hd
    have g3 : (encs xs)[i]? = some (enc y) := by rw [encs_get, g1]; rfl
    rw [List.flatMap_cons, List.length_append] at hl
    rw [List.length_cons, loopL, h]
    simp only
    rw [g3]
    simp only [hs y acc List.mem_cons_self (by omega), bind_ok]
    rw [loopL_keep h ys (i + 1) _ g2 (fun z a m hb => hs z a (List.mem_cons_of_mem _ m) hb) (by rw [List.length_append]; omega)]
    simp
@[simp] theorem bfR_lenr {tab : List PySem.Str} {L : LH} {n : Nat} : bfR tab .len L [.ref n] = match L[n]? with
      | some (.lst xs) => .ok (.int xs.length) L
      | some (.dic kvs) => .ok (.int kvs.length) L
      | _ => .bad := id rfl
@[simp] theorem asg_fld {cfg : Cfg} {i f : Nat} {v : D} {ρ : Env} {L : LH} : asg cfg (.fld i f) v ρ L = match ρ[i]? with
    | some (some o) => (match setFR cfg L o f v with
      | some L' => .ok ρ L'
      | none => .bad)
    | _ => .bad := by simp only [asg] <;> rfl
section
variable {cfg : Cfg} (B : Base cfg)
include B
theorem parts_ok {n : Nat} {x : T} {L : LH} : run cfg (n + 2) 12 [enc x] L = .ok (.tup (encs (kids x))) L := by
  rw [run_succ, runDef_of B.d12 rfl]
  have e5 : ∀ a, run cfg (n + 1) 13 [.tup [.str 5, a]] L = .ok (.tup [a]) L := by
    intro a
    rw [run_succ, runDef_of B.d13 rfl]
    simp [Lib.inner_statements]
  have e13 : ∀ a, run cfg (n + 1) 13 [.tup [.str 13, a]] L = .ok a L := by
    intro a
    rw [run_succ, runDef_of B.d13 rfl]
    simp [Lib.inner_statements]
  cases x <;> simp [Lib.parts_of, enc, kids, encs, sliR, e5, e13]
/-- the comprehension over the parts -/
theorem parts_lc {n : Nat} {L : LH} {r m l : Nat} {q3 q4 : Option D} {ts : List T} {z1 z2 : Option D} (h : L[r]? = some (.lst (encs ts))) (hl : (ts.flatMap kids).length ≤ 100000) :
    evE cfg (run cfg (n + 2)) (calls cfg (n + 2)).2 (.lc2 (.name 3) [3, 4] .seq [.var 0] (.name 4) [4] .seq [.call 12 [.var 3]] (.var 4)) [some (.ref r), z1, z2, q3, q4] L = .ok (.ref L.length) (L ++ [.lst (encs (ts.flatMap kids))]) := by
  have inner : ∀ (ys : List D) (x : D) (acc : List D), acc.length + ys.length ≤ 200000 → loopI (γ := Unit) (fun d acc L => (asg cfg (.name 4) d (wipe [some (.ref r), z1, z2, some x, none] [4]) L).calm.bind fun ρ' L => (evE cfg (run cfg (n + 2)) (calls cfg (n + 2)).2 (.var 4) ρ' L).calm.bind fun x L => if acc.length < most then .ok (.more (acc ++ [x])) L else .bad) ys acc L = .ok (.more (acc ++ ys)) L := by
    intro ys
    induction ys with
    | nil => intro x acc _; simp [loopI]
    | cons y ys ih =>
      intro x acc hb
      have hm : acc.length < most := by unfold most; simp at hb; omega
      have e := ih x (acc ++ [y]) (by simp at hb ⊢; omega)
      simp at e
      simp [loopI, hm, e]
  have e0 : ts.flatMap (fun x => encs (kids x)) = encs (ts.flatMap kids) := by
    rw [encs_map, List.map_flatMap]
    congr 1
    funext x
    rw [encs_map]
  have outer := loopL_keep (n := r) (L := L) (xs := ts) (f := fun x => encs (kids x))
    (step := fun d acc L => (asg cfg (.name 3) d (wipe [some (.ref r), z1, z2, q3, q4] [3, 4]) L).calm.bind fun ρ' L => (evEs cfg (run cfg (n + 2)) (calls cfg (n + 2)).2 [.call 12 [.var 3]] ρ' L).calm.bind fun vs1 L => match srcR .seq L vs1 with
        | some iv1 => loopV (γ := Unit) (fun d acc L => (asg cfg (.name 4) d (wipe ρ' [4]) L).calm.bind fun ρ' L => (evE cfg (run cfg (n + 2)) (calls cfg (n + 2)).2 (.var 4) ρ' L).calm.bind fun x L => if acc.length < most then .ok (.more (acc ++ [x])) L else .bad) iv1 acc L
        | none => .bad) h ts 0 [] rfl (fun y acc _ hb => by
          have e1 := parts_ok B (n := n) (x := y) (L := L)
          have e2 := inner (encs (kids y)) (enc y) acc (by omega)
          simp at e2
          simp [e1, e2]) (by rw [e0, encs_length]; simpa using hl)
  rw [e0] at outer
  simp only [evE, evEs_cons, evE_var, evEs_nil]
  simp [loopV] at outer
  simp [h, loopV, encs_length]
  exact congrArg (fun z => R.bind z (fun s L => match s with | Step.more acc => R.ok (D.ref (List.length L)) (L ++ [LO.lst acc]) | Step.done g => R.bad)) outer
theorem measure_loop {n : Nat} : ∀ (d : Nat) (ts : List T) (N m l r : Nat) (q3 q4 : Option D) (L : LH), tds ts ≤ d → d + 1 ≤ N → m + szs ts ≤ 20000 → l + tds ts ≤ 100 → L[r]? = some (.lst (encs ts)) →
    ∃ G r' q3' q4', loopW (evT cfg (run cfg (n + 2)) (calls cfg (n + 2)).2 (.var 0)) (evB cfg (run cfg (n + 2)) (calls cfg (n + 2)).2 [.aug 2 .add (.int 1), .aug 1 .add (.bf .len [.var 0]), .ite (.or (.cmp .gt (.var 1) (.glo 0)) (.cmp .gt (.var 2) (.glo 2))) [.brk] [], .set 0 (.lc2 (.name 3) [3, 4] .seq [.var 0] (.name 4) [4] .seq [.call 12 [.var 3]] (.var 4))]) N [some (.ref r), some (.int m), some (.int l), q3, q4] L
      = .ok (.nx [some (.ref r'), some (.int ((m + szs ts : Nat) : Int)), some (.int ((l + tds ts : Nat) : Int)), q3', q4']) (L ++ G) := by
  intro d
  induction d with
  | zero =>
    intro ts N m l r q3 q4 L h1 h2 h3 h4 h
    cases ts with
    | nil =>
      obtain ⟨N, rfl⟩ : ∃ M, N = M + 1 := ⟨N - 1, by omega⟩
      exact ⟨[], r, q3, q4, by simp [loopW, h, encs, szs, tds]⟩
    | cons x ts =>
      have := td_pos x
      simp only [tds] at h1
      omega
  | succ d ih =>
    intro ts N m l r q3 q4 L h1 h2 h3 h4 h
    obtain ⟨N, rfl⟩ : ∃ M, N = M + 1 := ⟨N - 1, by omega⟩
    by_cases hts : ts = []
    · subst hts
      exact ⟨[], r, q3, q4, by simp [loopW, h, encs, szs, tds]⟩
    · have k1 := szs_kids ts
      have k2 := tds_kids ts hts
      have k3 := length_szs (ts.flatMap kids)
      have e1 := parts_lc B (n := n) (m := m) (l := l) (q3 := q3) (q4 := q4) (z1 := some (.int ((m : Int) + (ts.length : Int)))) (z2 := some (.int ((l : Int) + 1))) h (by omega)
      obtain ⟨G, r', a, b, e2⟩ := ih (ts.flatMap kids) N (m + ts.length) (l + 1) L.length q3 q4 (L ++ [.lst (encs (ts.flatMap kids))]) (by omega) (by omega) (by omega) (by omega) (by simp)
      have hne : (encs ts).isEmpty = false := by
        cases ts with
        | nil => exact absurd rfl hts
        | cons a b => rfl
      have c1 : ¬ (20000 < (m : Int) + (ts.length : Int)) := by omega
      have c2 : ¬ (100 < (l : Int) + 1) := by omega
      have b1 : m + ts.length + szs (ts.flatMap kids) = m + szs ts := by omega
      have b2 : l + 1 + tds (ts.flatMap kids) = l + tds ts := by omega
      rw [b1, b2] at e2
      refine ⟨.lst (encs (ts.flatMap kids)) :: G, r', a, b, ?_⟩
      simp only [Int.natCast_add, Int.natCast_one, List.append_assoc, List.singleton_append] at e2 e1 ⊢
      rw [loopW]
      simp [h, hne, augI, encs_length, B.g0, B.g2, c1, c2, e1]
      exact e2
theorem measure_ok {n : Nat} {x : T} {L : LH} {r : Nat} (h : L[r]? = some (.lst [enc x])) (h1 : sz x ≤ 20000) (h2 : td x ≤ 100) : ∃ G, run cfg (n + 3) 11 [.ref r] L = .ok (.tup [.int (sz x), .int (td x)]) (L ++ G) := by
  obtain ⟨G, r', a, b, e⟩ := measure_loop B (n := n) (td x) [x] turns 0 0 r none none L (by simp [tds]) (by unfold turns; omega) (by simp [szs]; omega) (by simp [tds]; omega) h
  rw [run_succ, runDef_of B.d11 rfl]
  refine ⟨G, ?_⟩
  simp [szs, tds] at e
  simp [Lib.measure, e]
theorem toomuch_ok {n : Nat} {x : T} {L : LH} (h1 : sz x ≤ 20000) (h2 : td x ≤ 100) : ∃ G, run cfg (n + 4) 14 [enc x] L = .ok (.bl false) (L ++ G) := by
  obtain ⟨G, e⟩ := measure_ok B (n := n) (x := x) (L := L ++ [.lst [enc x]]) (r := L.length) (by simp) h1 h2
  rw [run_succ, runDef_of B.d14 rfl]
  refine ⟨.lst [enc x] :: G, ?_⟩
  have c1 : ¬ ((20000 : Int) < ((sz x : Nat) : Int)) := by omega
  have c2 : ¬ ((100 : Int) < ((td x : Nat) : Int)) := by omega
  simp at e
  simp [Lib.is_too_much, e, B.g0, B.g2, c1, c2]
theorem bounded_ok {n : Nat} {x : T} {L : LH} (h1 : sz x ≤ 20000) (h2 : td x ≤ 100) : ∃ G, run cfg (n + 5) 148 [enc x] L = .ok (enc x) (L ++ G) := by
  obtain ⟨G, e⟩ := toomuch_ok B (n := n) (x := x) (L := L) h1 h2
  rw [run_succ, runDef_of B.d148 rfl]
  refine ⟨G, ?_⟩
  obtain ⟨l, hl⟩ : ∃ l, enc x = .tup l := by cases x <;> exact ⟨_, rfl⟩
  rw [hl] at e ⊢
  simp [Lib.bounded, e]
theorem bounded_none {n : Nat} {L : LH} : run cfg (n + 1) 148 [.non] L = .ok .non L := by
  rw [run_succ, runDef_of B.d148 rfl]
  simp [Lib.bounded]
/-- a new world -/
theorem world_ok {n : Nat} {P : Prog} {L : LH} : run cfg (n + 1) 2 [.ref L.length, eProg P] (L ++ [.ins 0 []]) = .ok .non (L ++ [.ins 0 [(2, eDecls P.decls), (3, eDefs P.defs)]]) := by
  rw [run_succ, runDef_of B.d2 rfl]
  simp [Lib.World___init__, eProg, setFR, B.f0_2, B.f0_3]
end
end Ap

end
section
set_option linter.all false
set_option maxRecDepth 100000
set_option maxHeartbeats 1000000
/-! The program's check, first part: declarations and heads. -/
namespace Ap
open Ev
def SlotsOk (P : Prog) (l : List Slot) : Prop := l.length ≤ 3 ∧ ∀ s ∈ l, SlotOk P s
/-- the bounds of a program -/
structure Fine (P : Prog) : Prop where
  dec : 1 ≤ P.decls.length ∧ P.decls.length ≤ 5
  sha : ∀ d ∈ P.decls, 1 ≤ d.2.length ∧ d.2.length ≤ 4 ∧ ∀ sh ∈ d.2, SlotsOk P sh
  dfs : 1 ≤ P.defs.length ∧ P.defs.length ≤ 6
  hea : ∀ d ∈ P.defs, SlotsOk P d.1
section
variable {cfg : Cfg} (B : Base cfg) {P : Prog}
include B
theorem within_ok {n : Nat} {x a b : Int} {L : LH} : run cfg (n + 1) 15 [.int x, .int a, .int b] L = .ok (.bl (decide (a ≤ x) && decide (x ≤ b))) L := by
  rw [run_succ, runDef_of B.d15 rfl]
  by_cases h1 : a ≤ x <;> simp [Lib.is_within, h1]
theorem slots_ok {n : Nat} {l : List Slot} {L : LH} (h : SlotsOk P l) : run cfg (n + 2) 16 [eSlots l, .int P.decls.length] L = .ok (.bl true) L := by
  have loop : ∀ (l : List Slot) (r0 r2 : Option D), (∀ s ∈ l, SlotOk P s) → ∃ r2', loopI (turnF cfg (run cfg (n + 1)) (calls cfg (n + 1)).2 (.name 2) [.ite (.or (.not (.isi (.var 2) .tuple)) (.or (.cmp .ne (.bf .len [.var 2]) (.int 2)) (.cmp .notin (.idx (.var 2) (.int 0)) (.tup [.str 0, .str 1])))) [.ret (.bl false)] [], .ite (.not (.call 15 [.idx (.var 2) (.int 1), .int 0, .bin .sub (.var 1) (.int 1)])) [.ret (.bl false)] []]) (l.map eSlot) [r0, some (.int P.decls.length), r2] L = .ok (.more [r0, some (.int P.decls.length), r2']) L := by
    intro l
    induction l with
    | nil => intro r0 r2 _; exact ⟨r2, rfl⟩
    | cons s l ih =>
      intro r0 r2 hs
      have h1 := hs s List.mem_cons_self
      unfold SlotOk at h1
      have h2 : ((s.2 : Nat) : Int) ≤ ((P.decls.length : Nat) : Int) - 1 := by omega
      have e1 := within_ok B (n := n) (x := s.2) (a := 0) (b := (P.decls.length : Int) - 1) (L := L)
      obtain ⟨r2', e⟩ := ih r0 (some (eSlot s)) (fun y m => hs y (List.mem_cons_of_mem _ m))
      refine ⟨r2', ?_⟩
      simp only [List.map_cons, loopI]
      simp [h2] at e1
      simp [eSlot] at e
      cases hb : s.1 <;> rw [hb] at e <;> simp [eSide] at e <;> simp [turnF_def, eSlot, eSide, hb, e1, e]
  obtain ⟨r2, e⟩ := loop l (some (eSlots l)) none h.2
  have h3 : ¬ (3 < (l.length : Int)) := by have := h.1; omega
  rw [run_succ, runDef_of B.d16 rfl]
  simp [eSlots] at e
  simp [Lib.are_slots, eSlots, B.g8, h3, e]
theorem declaration_ok {n : Nat} {d : Decl} {L : LH} (h1 : 1 ≤ d.2.length) (h4 : d.2.length ≤ 4) (h : ∀ sh ∈ d.2, SlotsOk P sh) : run cfg (n + 3) 17 [eDecl d, .int P.decls.length] L = .ok (.bl true) L := by
  have loop : ∀ (l : List (List Slot)) (r0 r2 : Option D), (∀ s ∈ l, SlotsOk P s) → ∃ r2', loopI (turnF cfg (run cfg (n + 2)) (calls cfg (n + 2)).2 (.name 2) [.ite (.not (.call 16 [.var 2, .var 1])) [.ret (.bl false)] []]) (l.map eSlots) [r0, some (.int P.decls.length), r2] L = .ok (.more [r0, some (.int P.decls.length), r2']) L := by
    intro l
    induction l with
    | nil => intro r0 r2 _; exact ⟨r2, rfl⟩
    | cons s l ih =>
      intro r0 r2 hs
      have e1 := slots_ok B (n := n) (L := L) (hs s List.mem_cons_self)
      obtain ⟨r2', e⟩ := ih r0 (some (eSlots s)) (fun y m => hs y (List.mem_cons_of_mem _ m))
      refine ⟨r2', ?_⟩
      simp only [List.map_cons, loopI]
      simp [turnF_def, e1, e]
  obtain ⟨r2, e⟩ := loop d.2 (some (eDecl d)) none h
  have c1 : (1 : Int) ≤ (d.2.length : Int) := by omega
  have c2 : (d.2.length : Int) ≤ 4 := by omega
  rw [run_succ, runDef_of B.d17 rfl]
  simp [eDecl] at e
  cases hb : d.1 <;> rw [hb] at e <;> simp at e <;> simp [Lib.is_declaration, eDecl, hb, B.g6, c1, c2, e]
theorem declarations_ok {n : Nat} {L : LH} (F : Fine P) : run cfg (n + 4) 18 [eDecls P.decls] L = .ok (.bl true) L := by
  have loop : ∀ (l : List Decl) (r1 : Option D), (∀ d ∈ l, 1 ≤ d.2.length ∧ d.2.length ≤ 4 ∧ ∀ sh ∈ d.2, SlotsOk P sh) → ∃ r1', loopI (turnF cfg (run cfg (n + 3)) (calls cfg (n + 3)).2 (.name 1) [.ite (.not (.call 17 [.var 1, .bf .len [.var 0]])) [.ret (.bl false)] []]) (l.map eDecl) [some (.tup (P.decls.map eDecl)), r1] L = .ok (.more [some (.tup (P.decls.map eDecl)), r1']) L := by
    intro l
    induction l with
    | nil => intro r1 _; exact ⟨r1, rfl⟩
    | cons s l ih =>
      intro r1 hs
      obtain ⟨a1, a2, a3⟩ := hs s List.mem_cons_self
      have e1 := declaration_ok B (n := n) (L := L) a1 a2 a3
      obtain ⟨r2', e⟩ := ih (some (eDecl s)) (fun y m => hs y (List.mem_cons_of_mem _ m))
      refine ⟨r2', ?_⟩
      simp only [List.map_cons, loopI]
      simp [turnF_def, e1, e]
  obtain ⟨r1, e⟩ := loop P.decls none F.sha
  have c1 : (1 : Int) ≤ (P.decls.length : Int) := by have := F.dec; omega
  have c2 : (P.decls.length : Int) ≤ 5 := by have := F.dec; omega
  rw [run_succ, runDef_of B.d18 rfl]
  simp [Lib.are_declarations, eDecls, B.g4, c1, c2, e]
theorem headed_ok {n : Nat} {L : LH} (F : Fine P) (h0 : P.params 0 = []) : run cfg (n + 3) 25 [eDefs P.defs, .int P.decls.length] L = .ok (.bl true) L := by
  have loop : ∀ (l : List (List Slot × T)) (r0 r2 : Option D), (∀ d ∈ l, SlotsOk P d.1) → ∃ r2', loopI (turnF cfg (run cfg (n + 2)) (calls cfg (n + 2)).2 (.name 2) [.ite (.or (.not (.isi (.var 2) .tuple)) (.or (.cmp .ne (.bf .len [.var 2]) (.int 2)) (.not (.call 16 [.idx (.var 2) (.int 0), .var 1])))) [.ret (.bl false)] []]) (l.map eDef) [r0, some (.int P.decls.length), r2] L = .ok (.more [r0, some (.int P.decls.length), r2']) L := by
    intro l
    induction l with
    | nil => intro r0 r2 _; exact ⟨r2, rfl⟩
    | cons s l ih =>
      intro r0 r2 hs
      have e1 := slots_ok B (n := n) (L := L) (hs s List.mem_cons_self)
      obtain ⟨r2', e⟩ := ih r0 (some (eDef s)) (fun y m => hs y (List.mem_cons_of_mem _ m))
      refine ⟨r2', ?_⟩
      simp only [List.map_cons, loopI]
      simp [eDef] at e
      simp [turnF_def, eDef, e1, e]
  obtain ⟨r2, e⟩ := loop P.defs (some (eDefs P.defs)) none F.hea
  have c1 : (1 : Int) ≤ (P.defs.length : Int) := by have := F.dfs; omega
  have c2 : (P.defs.length : Int) ≤ 6 := by have := F.dfs; omega
  obtain ⟨d, hd, e0, _⟩ := prog_params B (P := P) (j := 0) (by have := F.dfs; omega)
  rw [h0] at e0
  rw [run_succ, runDef_of B.d25 rfl]
  simp [eDefs] at e
  simp [Lib.are_headed, eDefs, B.g10, c1, c2, e, hd, eDef, e0, eSlots, eqR, D.pure, D.pures, D.dep, D.deps, D.eqv, D.eqvs]
end
end Ap

end
section
set_option linter.all false
set_option maxRecDepth 100000
set_option maxHeartbeats 1000000
/-! The program's check, second part: the judge. -/
namespace Ap
open Ev
/-- the judge's object -/
def jd (w m d : Nat) : LO := .ins 1 [(15, .ref w), (16, .int m), (17, .int d)]
@[simp] theorem idxR_refs {L : LH} {n c : Nat} : idxR L (.ref n) (.str c) = match L[n]? with
    | some (.lst xs) => none
    | some (.dic kvs) => getK (.s c) kvs
    | _ => none := id rfl
section
variable {cfg : Cfg} (B : Base cfg) {P : Prog}
include B
theorem form_ok {n j q c : Nat} {r : List D} {L : LH} {kvs : List (Ky × D)} (h : L[q]? = some (.dic kvs)) (hk : getK (.s c) kvs = some (.int ((r.length : Nat) + 1 : Nat))) : run cfg (n + 1) 20 [.ref j, .tup (.str c :: r), .ref q] L = .ok (.bl true) L := by
  rw [run_succ, runDef_of B.d20 rfl]
  have hi : inR L (.str c) (.ref q) = some true := by
    unfold inR
    simp only [h, keyOf, hk, Option.isSome_some]
  simp at hk
  simp [Lib.Judge_has_form, h, hi, hk]
theorem met_ok {n w m d l : Nat} {A G : LH} (hl : l ≤ 110) : run cfg (n + 1) 21 [.ref A.length, .int l] (A ++ jd w m d :: G) = .ok (.bl true) (A ++ jd w (m + 1) (max d l) :: G) := by
  rw [run_succ, runDef_of B.d21 rfl]
  have st : ∀ o o', (A ++ o :: G).set A.length o' = A ++ o' :: G := fun o o' => set_end
  have c1 : (l : Int) ≤ 110 := by omega
  have e : (if (l : Int) > (d : Int) then (l : Int) else (d : Int)) = ((max d l : Nat) : Int) := by split <;> omega
  have e' : (if (d : Int) < (l : Int) then (l : Int) else (d : Int)) = ((max d l : Nat) : Int) := by split <;> omega
  simp [Lib.Judge_met, jd, at_end, st, B.f1_16, B.f1_17, clsR, augI, setFR, B.g18, c1, e']
  split <;> omega
/-- what the judge says of a statement -/
def JS (cfg : Cfg) (P : Prog) (A : LH) (w n : Nat) : Prop := ∀ (x : T) (ctx : List Slot) (l m d : Nat) (G : LH), okS P ctx x → l + td x ≤ 111 → 2 * td x + 4 ≤ n → ctx.length + 3 * td x ≤ 1000 → ∃ G' m' d', run cfg n 22 [.ref A.length, eSlots ctx, enc x, .int l] (A ++ jd w m d :: G) = .ok (.bl true) (A ++ jd w m' d' :: G') ∧ m' ≤ m + sz x ∧ d' ≤ max d (l + td x - 1)
def JT (cfg : Cfg) (P : Prog) (A : LH) (w n : Nat) : Prop := ∀ (x : T) (s : Slot) (ctx : List Slot) (l m d : Nat) (G : LH), okT P ctx s x → SlotOk P s → l + td x ≤ 111 → 2 * td x + 4 ≤ n → ctx.length + 3 * td x ≤ 1000 → ∃ G' m' d', run cfg n 24 [.ref A.length, eSlots ctx, eSlot s, enc x, .int l] (A ++ jd w m d :: G) = .ok (.bl true) (A ++ jd w m' d' :: G') ∧ m' ≤ m + sz x ∧ d' ≤ max d (l + td x - 1)
def JA (cfg : Cfg) (P : Prog) (A : LH) (w n : Nat) : Prop := ∀ (xs : List T) (sl ctx : List Slot) (l m d : Nat) (G : LH), okTs P ctx sl xs → (∀ s ∈ sl, SlotOk P s) → l + tds xs ≤ 111 → 2 * tds xs + 5 ≤ n → ctx.length + 3 * tds xs ≤ 1000 → ∃ G' m' d', run cfg n 23 [.ref A.length, eSlots ctx, eSlots sl, .tup (encs xs), .int l] (A ++ jd w m d :: G) = .ok (.bl true) (A ++ jd w m' d' :: G') ∧ m' ≤ m + szs xs ∧ d' ≤ max d (l + tds xs - 1)
theorem judge_terms {n w : Nat} {A : LH} (ihT : JT cfg P A w n) : JA cfg P A w (n + 1) := by
  intro xs sl ctx l m d G ho hs hl hn hc
  have loop : ∀ (xs : List T) (sl : List Slot) (m d : Nat) (G : LH) (r2 r3 r5 r6 : Option D), okTs P ctx sl xs → (∀ s ∈ sl, SlotOk P s) → l + tds xs ≤ 111 → 2 * tds xs + 4 ≤ n → ctx.length + 3 * tds xs ≤ 1000 → ∃ G' m' d' r5' r6', loopI (turnF cfg (run cfg n) (calls cfg n).2 (.tup [.name 5, .name 6]) [.ite (.not (.mth (.var 0) 25 [.var 1, .var 5, .var 6, .var 4])) [.ret (.bl false)] []]) (pairs (sl.map eSlot) (encs xs)) [some (.ref A.length), some (eSlots ctx), r2, r3, some (.int l), r5, r6] (A ++ jd w m d :: G)
      = .ok (.more [some (.ref A.length), some (eSlots ctx), r2, r3, some (.int l), r5', r6']) (A ++ jd w m' d' :: G') ∧ m' ≤ m + szs xs ∧ d' ≤ max d (l + tds xs - 1) := by
    intro xs
    induction xs with
    | nil =>
      intro sl m d G r2 r3 r5 r6 ho _ _ _ _
      simp only [okTs] at ho
      subst ho
      exact ⟨G, m, d, r5, r6, by simp [pairs, encs, loopI], by simp [szs], by omega⟩
    | cons x xs ih =>
      intro sl m d G r2 r3 r5 r6 ho hs hl hn hc
      simp only [okTs] at ho
      obtain ⟨s, r, rfl, o1, o2⟩ := ho
      simp only [tds] at hl hn hc
      have p1 := td_pos x
      obtain ⟨G1, m1, d1, e1, b1, b2⟩ := ihT x s ctx l m d G o1 (hs s List.mem_cons_self) (by omega) (by omega) (by omega)
      obtain ⟨G2, m2, d2, q5, q6, e2, b3, b4⟩ := ih r m1 d1 G1 r2 r3 (some (eSlot s)) (some (enc x)) o2 (fun y m => hs y (List.mem_cons_of_mem _ m)) (by omega) (by omega) (by omega)
      refine ⟨G2, m2, d2, q5, q6, ?_, by simp only [szs]; omega, by simp only [tds]; omega⟩
      simp only [List.map_cons, encs, pairs, loopI]
      simp [jd] at e1 e2
      simp [turnF_def, jd, at_end, B.m1_25, e1, e2]
  have ll := okTs_len ho
  obtain ⟨G1, m1, d1, q5, q6, e, b1, b2⟩ := loop xs sl m d G (some (eSlots sl)) (some (.tup (encs xs))) none none ho hs hl (by omega) hc
  refine ⟨G1, m1, d1, ?_, b1, b2⟩
  rw [run_succ, runDef_of B.d23 rfl]
  simp [eSlots] at e
  simp [Lib.Judge_terms, eSlots, encs_length, ll, e]
theorem judge_s (W : PWf P) {n w : Nat} {A : LH} (hw : WAt A w P) (ihT : JT cfg P A w (n + 1)) (ihA : JA cfg P A w (n + 1)) : JS cfg P A w (n + 2) := by
  intro x ctx l m d G ho hl hn hc
  have p1 := td_pos x
  have mt := met_ok B (n := n) (w := w) (m := m) (d := d) (l := l) (A := A) (G := G) (by omega)
  have fo : ∀ (c : Nat) (r : List D), getK (Ky.s c) [(Ky.s 7, D.int 4), (Ky.s 12, D.int 3), (Ky.s 18, D.int 2)] = some (.int ((r.length : Nat) + 1 : Nat)) → run cfg (n + 1) 20 [.ref A.length, .tup (.str c :: r), .ref (A ++ jd w (m + 1) (max d l) :: G).length] ((A ++ jd w (m + 1) (max d l) :: G) ++ [.dic [(.s 7, .int 4), (.s 12, .int 3), (.s 18, .int 2)]]) = .ok (.bl true) ((A ++ jd w (m + 1) (max d l) :: G) ++ [.dic [(.s 7, .int 4), (.s 12, .int 3), (.s 18, .int 2)]]) := fun c r h => form_ok B (by simp) h
  have hw2 := fun X : LH => hw.app (G := X)
  rw [run_succ, runDef_of B.d22 rfl]
  cases x with
  | stop k =>
    simp only [okS] at ho
    have f := fo 18 [.int k] rfl
    have wi := fun L => within_ok B (n := n) (x := k) (a := 0) (b := 9) (L := L)
    have c1 : (k : Int) ≤ 9 := by omega
    refine ⟨G ++ [.dic [(.s 7, .int 4), (.s 12, .int 3), (.s 18, .int 2)]], m + 1, max d l, ?_, by simp only [sz]; omega, by simp only [td]; omega⟩
    simp [jd] at mt f
    simp [c1] at wi
    simp [Lib.Judge_statement, enc, jd, at_end, B.m1_23, B.m1_24, mt, f, wi, B.g16]
  | cut t p c =>
    simp only [okS] at ho
    obtain ⟨h0, h1, h2⟩ := ho
    simp only [td] at hl hn hc
    have f := fo 7 [.int t, enc p, enc c] rfl
    have wi := fun L => within_ok B (n := n) (x := t) (a := 0) (b := (P.decls.length : Int) - 1) (L := L)
    have c1 : (t : Int) ≤ (P.decls.length : Int) - 1 := by omega
    obtain ⟨G1, m1, d1, e1, b1, b2⟩ := ihT p (true, t) ctx (l + 1) (m + 1) (max d l) (G ++ [.dic [(.s 7, .int 4), (.s 12, .int 3), (.s 18, .int 2)]]) h1 h0 (by omega) (by omega) (by omega)
    obtain ⟨G2, m2, d2, e2, b3, b4⟩ := ihT c (false, t) ctx (l + 1) m1 d1 G1 h2 h0 (by omega) (by omega) (by omega)
    refine ⟨G2, m2, d2, ?_, by simp only [sz]; omega, by simp only [td]; omega⟩
    have hw3 := hw2 (jd w (m + 1) (max d l) :: (G ++ [.dic [(.s 7, .int 4), (.s 12, .int 3), (.s 18, .int 2)]]))
    unfold WAt at hw3
    simp [jd] at mt f hw3
    simp [c1] at wi
    simp [jd, eSlot, eSide] at e1 e2
    simp [Lib.Judge_statement, enc, jd, at_end, B.m1_23, B.m1_24, B.m1_25, B.f1_15, B.f0_2, mt, f, hw3, eDecls, wi, e1, e2]
  | call j xs =>
    simp only [okS] at ho
    obtain ⟨h0, h1⟩ := ho
    simp only [td] at hl hn hc
    have f := fo 12 [.int j, .tup (encs xs)] rfl
    have wi := fun L => within_ok B (n := n) (x := j) (a := 0) (b := (P.defs.length : Int) - 1) (L := L)
    have c1 : (j : Int) ≤ (P.defs.length : Int) - 1 := by omega
    obtain ⟨G1, m1, d1, e1, b1, b2⟩ := ihA xs (P.params j) ctx (l + 1) (m + 1) (max d l) (G ++ [.dic [(.s 7, .int 4), (.s 12, .int 3), (.s 18, .int 2)]]) h1 (W.par j) (by omega) (by omega) (by omega)
    refine ⟨G1, m1, d1, ?_, by simp only [sz]; omega, by simp only [td]; omega⟩
    have hw4 := hw2 (jd w (m + 1) (max d l) :: (G ++ [.dic [(.s 7, .int 4), (.s 12, .int 3), (.s 18, .int 2)]]))
    have hw3 := hw4
    unfold WAt at hw3
    have pk := params_ok B (n := n) hw4 h0
    simp [jd] at mt f hw3 pk
    simp [c1] at wi
    simp [jd] at e1
    simp [Lib.Judge_statement, enc, jd, at_end, B.m1_23, B.m1_24, B.m1_19, B.f1_15, B.f0_3, B.m0_21, mt, f, hw3, eDefs, wi, pk, e1]
  | _ => simp [okS] at ho
theorem judge_bs {n w : Nat} {A : LH} (ihS : JS cfg P A w n) {ctx : List Slot} {l : Nat} : ∀ (xs : List T) (sh : List (List Slot)) (m d : Nat) (G : LH) (r2 r3 r5 r6 r7 r8 r9 : Option D), okBs P ctx sh xs → (∀ s ∈ sh, s.length ≤ 3) → l + 1 + tds xs ≤ 111 → 2 * tds xs + 4 ≤ n → ctx.length + 3 + 3 * tds xs ≤ 1000 → ∃ G' m' d' r8' r9', loopI (turnF cfg (run cfg n) (calls cfg n).2 (.tup [.name 8, .name 9]) [.ite (.not (.mth (.var 0) 22 [.bin .add (.var 1) (.var 8), .var 9, .bin .add (.var 4) (.int 1)])) [.ret (.bl false)] []]) (pairs (sh.map eSlots) (encs xs)) [some (.ref A.length), some (.tup (ctx.map eSlot)), r2, r3, some (.int l), r5, r6, r7, r8, r9] (A ++ jd w m d :: G)
      = .ok (.more [some (.ref A.length), some (.tup (ctx.map eSlot)), r2, r3, some (.int l), r5, r6, r7, r8', r9']) (A ++ jd w m' d' :: G') ∧ m' ≤ m + szs xs ∧ d' ≤ max d (l + 1 + tds xs - 1) := by
  intro xs
  induction xs with
  | nil =>
    intro sh m d G r2 r3 r5 r6 r7 r8 r9 ho _ _ _ _
    simp only [okBs] at ho
    subst ho
    exact ⟨G, m, d, r8, r9, by simp [pairs, encs, loopI], by simp [szs], by omega⟩
  | cons x xs ih =>
    intro sh m d G r2 r3 r5 r6 r7 r8 r9 ho hs hl hn hc
    simp only [okBs] at ho
    obtain ⟨s, r, rfl, o1, o2⟩ := ho
    simp only [tds] at hl hn hc
    have p1 := td_pos x
    have s3 := hs s List.mem_cons_self
    obtain ⟨G1, m1, d1, e1, b1, b2⟩ := ihS x (ctx ++ s) (l + 1) m d G o1 (by omega) (by omega) (by simp; omega)
    obtain ⟨G2, m2, d2, q8, q9, e2, b3, b4⟩ := ih r m1 d1 G1 r2 r3 r5 r6 r7 (some (eSlots s)) (some (enc x)) o2 (fun y m => hs y (List.mem_cons_of_mem _ m)) (by omega) (by omega) (by omega)
    refine ⟨G2, m2, d2, q8, q9, ?_, by simp only [szs]; omega, by simp only [tds]; omega⟩
    have hm : ctx.length + s.length ≤ most := by unfold most; omega
    simp only [List.map_cons, encs, pairs, loopI]
    simp [jd, eSlots] at e1 e2
    simp [turnF_def, jd, at_end, eSlots, B.m1_22, hm, e1, e2]
omit B in
theorem eqR_slot {L : LH} {s : Slot} : eqR L (eSlot s) (eSlot s) = some true := by
  cases h : s.1 <;> simp [eSlot, eSide, h, eqR, D.pure, D.pures, D.dep, D.deps, D.eqv, D.eqvs]
omit B in
theorem eqR_side {L : LH} {a b : Bool} : eqR L (eSide a) (eSide b) = some (a == b) := by
  cases a <;> cases b <;> simp [eSide]
theorem judge_t (W : PWf P) {n w : Nat} {A : LH} (hw : WAt A w P) (ihS : JS cfg P A w (n + 1)) (ihA : JA cfg P A w (n + 1)) : JT cfg P A w (n + 2) := by
  intro x s ctx l m d G ho hs hl hn hc
  have p1 := td_pos x
  have mt := met_ok B (n := n) (w := w) (m := m) (d := d) (l := l) (A := A) (G := G) (by omega)
  have fo : ∀ (c : Nat) (r : List D), getK (Ky.s c) [(Ky.s 20, D.int 2), (Ky.s 5, D.int 2), (Ky.s 6, D.int 3), (Ky.s 13, D.int 2)] = some (.int ((r.length : Nat) + 1 : Nat)) → run cfg (n + 1) 20 [.ref A.length, .tup (.str c :: r), .ref (A ++ jd w (m + 1) (max d l) :: G).length] ((A ++ jd w (m + 1) (max d l) :: G) ++ [.dic [(.s 20, .int 2), (.s 5, .int 2), (.s 6, .int 3), (.s 13, .int 2)]]) = .ok (.bl true) ((A ++ jd w (m + 1) (max d l) :: G) ++ [.dic [(.s 20, .int 2), (.s 5, .int 2), (.s 6, .int 3), (.s 13, .int 2)]]) := fun c r h => form_ok B (by simp) h
  have hw4 := hw.app (G := jd w (m + 1) (max d l) :: (G ++ [.dic [(.s 20, .int 2), (.s 5, .int 2), (.s 6, .int 3), (.s 13, .int 2)]]))
  have hw3 := hw4
  unfold WAt at hw3
  have sh := shapes_ok B (n := n) hw4 hs
  have mk := making_ok B (n := n) hw4 hs
  rw [run_succ, runDef_of B.d24 rfl]
  simp [jd] at mt hw3 sh mk
  cases x with
  | var k =>
    simp only [okT] at ho
    have hk : k < ctx.length := (List.getElem?_eq_some_iff.mp ho).1
    have f := fo 20 [.int k] rfl
    have wi := fun L => within_ok B (n := n) (x := k) (a := 0) (b := (ctx.length : Int) - 1) (L := L)
    have c1 : (k : Int) ≤ (ctx.length : Int) - 1 := by omega
    have eq := fun L => eqR_slot (L := L) (s := s)
    refine ⟨G ++ [.dic [(.s 20, .int 2), (.s 5, .int 2), (.s 6, .int 3), (.s 13, .int 2)]], m + 1, max d l, ?_, by simp only [sz]; omega, by simp only [td]; omega⟩
    simp [jd] at f
    simp [c1] at wi
    simp [eSlot] at eq
    simp [Lib.Judge_term, enc, jd, at_end, eSlots, eSlot, ho, B.m1_23, B.m1_24, mt, f, wi, eq]
  | bind y =>
    simp only [okT] at ho
    simp only [td] at hl hn hc
    have f := fo 5 [enc y] rfl
    have ot := fun L => other_ok B (n := n) (L := L) (b := s.1)
    obtain ⟨G1, m1, d1, e1, b1, b2⟩ := ihS y _ (l + 1) (m + 1) (max d l) (G ++ [.dic [(.s 20, .int 2), (.s 5, .int 2), (.s 6, .int 3), (.s 13, .int 2)]]) ho (by omega) (by omega) (by simp; omega)
    refine ⟨G1, m1, d1, ?_, by simp only [sz]; omega, by simp only [td]; omega⟩
    have hm : ctx.length + 1 ≤ most := by unfold most; omega
    simp [jd] at f
    simp [jd, eSlots, eSlot] at e1
    simp [Lib.Judge_term, enc, jd, at_end, eSlots, eSlot, B.m1_23, B.m1_24, B.m1_22, mt, f, ot, hm, e1]
  | make k xs =>
    simp only [okT] at ho
    obtain ⟨h0, h1, h2⟩ := ho
    simp only [td] at hl hn hc
    have f := fo 6 [.int k, .tup (encs xs)] rfl
    have wi := fun L => within_ok B (n := n) (x := k) (a := 0) (b := ((P.shapes s.2).length : Int) - 1) (L := L)
    have c1 : (k : Int) ≤ ((P.shapes s.2).length : Int) - 1 := by omega
    have at1 := P.shape_at h1
    obtain ⟨G1, m1, d1, e1, b1, b2⟩ := ihA xs (P.shape s.2 k) ctx (l + 1) (m + 1) (max d l) (G ++ [.dic [(.s 20, .int 2), (.s 5, .int 2), (.s 6, .int 3), (.s 13, .int 2)]]) h2 W.shape (by omega) (by omega) (by omega)
    refine ⟨G1, m1, d1, ?_, by simp only [sz]; omega, by simp only [td]; omega⟩
    have eq := fun L => eqR_side (L := L) (a := s.1) (b := P.makes s.2)
    simp [jd] at f
    simp [c1] at wi
    simp [jd, eSlots] at e1
    simp [h0] at eq
    simp [Lib.Judge_term, enc, jd, at_end, eSlots, eSlot, B.m1_23, B.m1_24, B.m1_19, B.f1_15, B.m0_11, B.m0_9, mt, f, hw3, sh, mk, h0, eq, wi, at1, e1]
  | mtch ss =>
    simp only [okT] at ho
    obtain ⟨h0, h1⟩ := ho
    simp only [td] at hl hn hc
    have f := fo 13 [.tup (encs ss)] rfl
    have ll := okBs_len h1
    have eq := fun L => eqR_side (L := L) (a := s.1) (b := P.makes s.2)
    have sh3 : ∀ q ∈ P.shapes s.2, q.length ≤ 3 := by
      intro q mq
      obtain ⟨k, hk, rfl⟩ := List.getElem_of_mem mq
      have := W.shl s.2 k
      have e := P.shape_at hk
      rw [List.getElem?_eq_getElem hk] at e
      injection e with e
      rw [e]; exact this
    obtain ⟨G1, m1, d1, q8, q9, e1, b1, b2⟩ := judge_bs B ihS (ctx := ctx) (l := l) ss (P.shapes s.2) (m + 1) (max d l) (G ++ [.dic [(.s 20, .int 2), (.s 5, .int 2), (.s 6, .int 3), (.s 13, .int 2)]]) (some (eSlot s)) (some (enc (.mtch ss))) (some (.tup ((P.shapes s.2).map eSlots))) (some (eSide s.1)) (some (.int s.2)) none none h1 sh3 (by omega) (by omega) (by omega)
    refine ⟨G1, m1, d1, ?_, by simp only [sz]; omega, by simp only [td]; omega⟩
    simp [jd] at f
    simp [jd, enc, eSlot] at e1
    have hb : (s.1 == P.makes s.2) = false := by rw [h0]; cases P.makes s.2 <;> rfl
    simp [hb] at eq
    simp [Lib.Judge_term, enc, jd, at_end, eSlots, eSlot, encs_length, ll, B.m1_23, B.m1_24, B.f1_15, B.m0_11, B.m0_9, mt, f, hw3, sh, mk, eq, e1]
  | _ => simp [okT] at ho
end
end Ap

end
section
set_option linter.all false
set_option maxRecDepth 100000
set_option maxHeartbeats 1000000
/-! The program's check, last part. -/
namespace Ap
open Ev
section
variable {cfg : Cfg} (B : Base cfg) {P : Prog}
include B
theorem judge_ok (W : PWf P) {w : Nat} {A : LH} (hw : WAt A w P) : ∀ n, JS cfg P A w n ∧ JT cfg P A w n ∧ JA cfg P A w n
  | 0 => ⟨fun x _ _ _ _ _ _ _ h => by omega, fun x _ _ _ _ _ _ _ _ _ h => by omega, fun xs _ _ _ _ _ _ _ _ _ h => by omega⟩
  | 1 => ⟨fun x _ _ _ _ _ _ _ h => by omega, fun x _ _ _ _ _ _ _ _ _ h => by omega, fun xs _ _ _ _ _ _ _ _ _ h => by omega⟩
  | n + 2 => by
    obtain ⟨h1, h2, h3⟩ := judge_ok W hw (n + 1)
    exact ⟨judge_s B W hw h2 h3, judge_t B W hw h1 h3, judge_terms B h2⟩
/-- the bodies' sizes -/
def bodies (P : Prog) : List T := P.defs.map fun d => d.2
theorem program_loop (W : PWf P) {n w : Nat} {A : LH} (hw : WAt A w P) : ∀ (l : List (List Slot × T)) (m d : Nat) (G : LH) (r0 r2 r3 : Option D), (∀ q ∈ l, okS P q.1 q.2 ∧ q.1.length ≤ 3) → tds (l.map fun q => q.2) ≤ 100 → 2 * tds (l.map fun q => q.2) + 4 ≤ n →
    ∃ G' m' d' r2' r3', loopI (turnF cfg (run cfg n) (calls cfg n).2 (.tup [.name 2, .name 3]) [.ite (.not (.mth (.var 1) 22 [.var 2, .var 3, .int 1])) [.ret (.bl false)] []]) (l.map eDef) [r0, some (.ref A.length), r2, r3] (A ++ jd w m d :: G)
      = .ok (.more [r0, some (.ref A.length), r2', r3']) (A ++ jd w m' d' :: G') ∧ m' ≤ m + szs (l.map fun q => q.2) ∧ d' ≤ max d (tds (l.map fun q => q.2)) := by
  intro l
  induction l with
  | nil => intro m d G r0 r2 r3 _ _ _; exact ⟨G, m, d, r2, r3, by simp [loopI], by simp [szs], by omega⟩
  | cons q l ih =>
    intro m d G r0 r2 r3 h hd hn
    simp only [List.map_cons, tds] at hd hn
    obtain ⟨o1, o2⟩ := h q List.mem_cons_self
    obtain ⟨G1, m1, d1, e1, b1, b2⟩ := (judge_ok B W hw n).1 q.2 q.1 1 m d G o1 (by omega) (by omega) (by omega)
    obtain ⟨G2, m2, d2, q2, q3, e2, b3, b4⟩ := ih m1 d1 G1 r0 (some (eSlots q.1)) (some (enc q.2)) (fun y my => h y (List.mem_cons_of_mem _ my)) (by omega) (by omega)
    refine ⟨G2, m2, d2, q2, q3, ?_, by simp only [List.map_cons, szs]; omega, by simp only [List.map_cons, tds]; omega⟩
    simp only [List.map_cons, loopI]
    simp [jd] at e1 e2
    simp [turnF_def, jd, at_end, eDef, B.m1_22, e1, e2]
theorem program_ok (W : PWf P) (F : Fine P) {n : Nat} {L : LH} (hb : ∀ q ∈ P.defs, okS P q.1 q.2) (h1 : szs (bodies P) ≤ 400) (h2 : tds (bodies P) ≤ 30) (hn : 2 * tds (bodies P) + 10 ≤ n) : ∃ G, run cfg n 26 [eProg P] L = .ok (.bl true) (L ++ G) := by
  obtain ⟨n, rfl⟩ : ∃ m, n = m + 5 := ⟨n - 5, by omega⟩
  have dc := fun L => declarations_ok B (n := n) (L := L) F
  have hd := fun L => headed_ok B (n := n + 1) (L := L) F W.nop
  have wo := world_ok B (n := n + 2) (P := P) (L := L)
  have jo : run cfg (n + 3) 19 [.ref (L.length + 1), .ref L.length] (L ++ [.ins 0 [(2, eDecls P.decls), (3, eDefs P.defs)], .ins 1 []]) = .ok .non (L ++ [.ins 0 [(2, eDecls P.decls), (3, eDefs P.defs)], jd L.length 0 0]) := by
    rw [run_succ, runDef_of B.d19 rfl]
    simp [Lib.Judge___init__, setFR, B.f1_15, B.f1_16, B.f1_17, at_two, set_two, jd]
  obtain ⟨G, m', d', q2, q3, e, b1, b2⟩ := program_loop B W (n := n + 4) (w := L.length) (A := L ++ [.ins 0 [(2, eDecls P.decls), (3, eDefs P.defs)]]) (by unfold WAt; simp) P.defs 0 0 [] (some (eProg P)) none none (fun q mq => ⟨hb q mq, (F.hea q mq).1⟩) (by unfold bodies at h2; omega) (by unfold bodies at hn; omega)
  unfold bodies at h1 h2
  rw [run_succ, runDef_of B.d26 rfl]
  refine ⟨.ins 0 [(2, eDecls P.decls), (3, eDefs P.defs)] :: jd L.length m' d' :: G, ?_⟩
  have c1 : (m' : Int) ≤ 400 := by omega
  have c2 : (d' : Int) ≤ 30 := by omega
  simp [eDecls, eDefs, eProg, jd, ini_succ] at dc hd wo jo e
  simp [Lib.is_program, eProg, eDecls, eDefs, dc, hd, B.i0, B.i1, ini_succ, wo, jo, e, jd, at_two, B.f1_16, B.f1_17, B.g14, B.g12, c1, c2]
theorem check_ok (W : PWf P) (F : Fine P) {n : Nat} {L : LH} (hb : ∀ q ∈ P.defs, okS P q.1 q.2) (h1 : szs (bodies P) ≤ 400) (h2 : tds (bodies P) ≤ 30) (hn : 2 * tds (bodies P) + 11 ≤ n) : ∃ G, run cfg n 27 [eProg P] L = .ok .non (L ++ G) := by
  obtain ⟨n, rfl⟩ : ∃ m, n = m + 1 := ⟨n - 1, by omega⟩
  obtain ⟨G, e⟩ := program_ok B W F (n := n) (L := L) hb h1 h2 (by omega)
  rw [run_succ, runDef_of B.d27 rfl]
  exact ⟨G, by simp [Lib.check_program, e]⟩
end
end Ap

end
section
set_option linter.all false
set_option maxRecDepth 100000
set_option maxHeartbeats 1000000
/-! Begin and step. -/
namespace Ap
open Ev
/-- a program as the law draws it -/
structure Good (P : Prog) : Prop where
  W : PWf P
  F : Fine P
  hb : ∀ q ∈ P.defs, okS P q.1 q.2
  h1 : szs (bodies P) ≤ 400
  h2 : tds (bodies P) ≤ 30
theorem Good.td {P : Prog} (H : Good P) (j : Nat) : td (P.body j) ≤ 30 := by
  unfold Prog.body
  cases h : P.defs[j]? with
  | none => simp [Ap.td]
  | some d =>
    have h2 := H.h2
    have : d.2 ∈ bodies P := List.mem_map_of_mem (List.mem_of_getElem? h)
    have := tds_mem this
    simp only
    omega
theorem Good.ok0 {P : Prog} (H : Good P) : okS P [] (P.body 0) := by
  have := H.W.bod 0 H.W.one
  rwa [H.W.nop] at this
section
variable {cfg : Cfg} (B : Base cfg) {P : Prog}
include B
theorem begin_ok (h77 : cfg.defs 77 = some Lib.begin) (H : Good P) {n : Nat} {L : LH} (hn : 100 ≤ n) : ∃ G, run cfg n 77 [eProg P] L = .ok (enc (P.body 0)) (L ++ G) := by
  obtain ⟨n, rfl⟩ : ∃ m, n = m + 3 := ⟨n - 3, by omega⟩
  have h2 := H.h2
  obtain ⟨G, e⟩ := check_ok B H.W H.F (n := n + 2) (L := L) H.hb H.h1 H.h2 (by omega)
  have wo := world_ok B (n := n) (P := P) (L := L ++ G)
  have bo := body_0 B (n := n + 1) (L := (L ++ G) ++ [.ins 0 [(2, eDecls P.decls), (3, eDefs P.defs)]]) (w := (L ++ G).length) (by unfold WAt; simp only [List.getElem?_concat_length]) H.W.one
  rw [run_succ, runDef_of h77 rfl]
  refine ⟨G ++ [.ins 0 [(2, eDecls P.decls), (3, eDefs P.defs)]], ?_⟩
  simp at wo bo
  simp [Lib.begin, e, B.i0, ini_succ, wo, B.m0_42, bo]
theorem step_ok (h149 : cfg.defs 149 = some Lib.step) (H : Good P) {n : Nat} {s : T} {L : LH} (ho : okS P [] s) (h1 : td s ≤ 60) (h2 : sz s ≤ 20000) (h3 : ∀ r, stepT P s = some r → td r.2 ≤ 100 ∧ sz r.2 ≤ 20000) (hn : 330 ≤ n) (hn2 : n ≤ 1000) :
    ∃ G, run cfg n 149 [eProg P, enc s] L = .ok (match stepT P s with | some r => enc r.2 | none => .non) (L ++ G) := by
  obtain ⟨n, rfl⟩ : ∃ m, n = m + 6 := ⟨n - 6, by omega⟩
  have h2' := H.h2
  obtain ⟨G1, e1⟩ := check_ok B H.W H.F (n := n + 5) (L := L) H.hb H.h1 H.h2 (by omega)
  have wo := world_ok B (n := n + 3) (P := P) (L := L ++ G1)
  obtain ⟨G2, e2⟩ := bounded_ok B (n := n) (x := s) (L := (L ++ G1) ++ [.ins 0 [(2, eDecls P.decls), (3, eDefs P.defs)]]) h2 (by omega)
  obtain ⟨G3, e3⟩ := after_ok B H.W (n := n + 5) (Db := 30) (s := s) (w := (L ++ G1).length) (L := ((L ++ G1) ++ [.ins 0 [(2, eDecls P.decls), (3, eDefs P.defs)]]) ++ G2) (WAt.app (by unfold WAt; simp only [List.getElem?_concat_length])) (fun j => H.td j) ho (by omega) (by omega)
  rw [run_succ, runDef_of h149 rfl]
  simp at wo e2
  cases hs : stepT P s with
  | some r =>
    rw [hs] at e3
    obtain ⟨b1, b2⟩ := h3 r hs
    obtain ⟨G4, e4⟩ := bounded_ok B (n := n) (x := r.2) (L := (((L ++ G1) ++ [.ins 0 [(2, eDecls P.decls), (3, eDefs P.defs)]]) ++ G2) ++ G3) b2 b1
    refine ⟨G1 ++ .ins 0 [(2, eDecls P.decls), (3, eDefs P.defs)] :: (G2 ++ G3 ++ G4), ?_⟩
    simp at e3 e4
    simp [Lib.step, e1, B.i0, ini_succ, wo, e2, e3, e4]
  | none =>
    rw [hs] at e3
    have e4 := bounded_none B (n := n + 4) (L := (((L ++ G1) ++ [.ins 0 [(2, eDecls P.decls), (3, eDefs P.defs)]]) ++ G2) ++ G3)
    refine ⟨G1 ++ .ins 0 [(2, eDecls P.decls), (3, eDefs P.defs)] :: (G2 ++ G3), ?_⟩
    simp at e3 e4
    simp [Lib.step, e1, B.i0, ini_succ, wo, e2, e3, e4]
end
end Ap

end
section
set_option linter.all false
set_option maxRecDepth 100000
set_option maxHeartbeats 1000000
/-! The drawing: the box. -/
namespace Ap
open Ev
/-- the heap with the box -/
def HB (cells : List D) (s : Int × Int × Nat) (G : LH) : LH := .lst cells :: .lst [.int s.1, .int s.2.1, .int s.2.2, .ref 0] :: G
theorem HB_def {cells : List D} {s : Int × Int × Nat} {G : LH} : HB cells s G = .lst cells :: .lst [.int s.1, .int s.2.1, .int s.2.2, .ref 0] :: G := rfl
@[simp] theorem HB_app {cells : List D} {s : Int × Int × Nat} {G X : LH} : HB cells s G ++ X = HB cells s (G ++ X) := rfl
@[simp] theorem HB_len {cells : List D} {s : Int × Int × Nat} {G : LH} : (HB cells s G).length = G.length + 2 := rfl
@[simp high] theorem HB_get {cells : List D} {s : Int × Int × Nat} {G : LH} {n : Nat} : (HB cells s G)[n + 2]? = G[n]? := rfl
@[simp] theorem HB_set {cells : List D} {s : Int × Int × Nat} {G : LH} {n : Nat} {o : LO} : (HB cells s G).set (n + 2) o = HB cells s (G.set n o) := rfl
@[simp high] theorem at_deep {A X Y : LH} {o : LO} : (A ++ (X ++ o :: Y))[A.length + X.length]? = some o := by
  rw [List.getElem?_append_right (by omega), List.getElem?_append_right (by omega)]
  simp
@[simp high] theorem at_deep3 {A X Y Z : LH} {o : LO} : (A ++ (X ++ (Y ++ o :: Z)))[A.length + X.length + Y.length]? = some o := by
  rw [← List.append_assoc, ← List.append_assoc, List.getElem?_append_right (by simp; omega)]
  simp [Nat.add_assoc]
@[simp] theorem setIR_lst {L : LH} {n : Nat} {i : Int} {v : D} : setIR L (.ref n) (.int i) v = match L[n]? with
    | some (.lst xs) => (match ixN xs.length i with
      | some j => some (L.set n (.lst (xs.set j v)))
      | none => none)
    | some (.dic kvs) => (match keyOf (.int i) with
      | some k => if kvs.length < most then some (L.set n (.dic (putK k v kvs))) else none
      | none => none)
    | _ => none := id rfl
@[simp] theorem binR_mod {L : LH} {a b : Int} : binR .mod L (.int a) (.int b) = if 0 < b then .ok (.int (a % b)) L else .bad := id rfl
@[simp] theorem binR_fdiv {L : LH} {a b : Int} : binR .fdiv L (.int a) (.int b) = if 0 < b ∧ b < 1073741824 then .ok (.int (a / b)) L else .bad := id rfl
@[simp] theorem binR_mul {L : LH} {a b : Int} : binR .mul L (.int a) (.int b) = if (-(2 ^ 64) < a ∧ a < 2 ^ 64) ∨ (-(2 ^ 64) < b ∧ b < 2 ^ 64) then .ok (.int (a * b)) L else .bad := id rfl
theorem binR_mul2 {L : LH} {a b : Int} (h : (-(2 ^ 64) < a ∧ a < 2 ^ 64) ∨ (-(2 ^ 64) < b ∧ b < 2 ^ 64)) : binR .mul L (.int a) (.int b) = .ok (.int (a * b)) L := if_pos h
theorem binR_pow {L : LH} : binR .pow L (.int 10) (.int 18) = .ok (.int (10 ^ 18)) L := id rfl
@[simp] theorem bfR_int {tab : List PySem.Str} {L : LH} {i : Int} : bfR tab .int L [.int i] = .ok (.int i) L := id rfl
@[simp] theorem bfR_abs {tab : List PySem.Str} {L : LH} {i : Int} : bfR tab .abs L [.int i] = .ok (.int (if i < 0 then -i else i)) L := id rfl
theorem mod_nat {z : Int} {m : Int} (h : 0 < m) : ∃ v : Nat, z % m = v ∧ (v : Int) < m := by
  have h1 := Int.emod_nonneg z (b := m) (by omega)
  have h2 := Int.emod_lt_of_pos z (b := m) (by omega)
  exact ⟨(z % m).toNat, by omega, by omega⟩
section
variable {cfg : Cfg} (B : Base cfg)
include B
theorem take_tail {n : Nat} {m : Int} {cells : List D} {c k : Int} {a : Nat} {G : LH} {r2 r3 r4 : Option D} (m1 : 0 < m) (m2 : m < 1073741824) : ∃ s' v, ((v : Nat) : Int) < m ∧ (evB cfg (run cfg n) (calls cfg n).2 (Lib._law_take2.body.drop 1) [some (.ref 1), some (.int m), r2, r3, r4] (.lst cells :: .lst [.int c, .int k, .int a, .ref 0] :: G)).bind endD = .ok (.int (v : Nat)) (HB cells s' G) := by
  by_cases hk : 0 < k
  · obtain ⟨v, e, hv⟩ := mod_nat (z := c) m1
    refine ⟨(c / m, if 0 < c / m then k - 1 else 0, a), v, hv, ?_⟩
    by_cases hc : 0 < c / m
    · simp [Lib._law_take2, HB, hk, m1, m2, ixN, hc, e, atI]
    · simp [Lib._law_take2, HB, hk, m1, m2, ixN, hc, e, atI]
  · obtain ⟨v, e, hv⟩ := mod_nat (z := ((c * 48271 + 69621 * ((k + 1) + 20)) % 2147483647 / 7 + (c * 48271 + 69621 * ((k + 1) + 20)) % 2147483647) % 1000003) m1
    refine ⟨((c * 48271 + 69621 * ((k + 1) + 20)) % 2147483647, k + 1, a), v, hv, ?_⟩
    simp [Lib._law_take2, HB, hk, m1, m2, ixN, e, atI]
theorem take_ok {n : Nat} {m : Int} {ns : List Int} {s : Int × Int × Nat} {G : LH} (m1 : 0 < m) (m2 : m < 1073741824) : ∃ s' v, ((v : Nat) : Int) < m ∧ run cfg (n + 1) 132 [.ref 1, .int m] (HB (ns.map D.int) s G) = .ok (.int (v : Nat)) (HB (ns.map D.int) s' G) := by
  obtain ⟨c, k, a⟩ := s
  rw [run_succ, runDef_of B.d132 rfl]
  by_cases hk : k = 0
  · subst hk
    by_cases ha : a < ns.length
    · have hl : (a : Int) < (ns.length : Int) := by omega
      have hg : ns[a]? = some ns[a] := List.getElem?_eq_getElem ha
      by_cases hc : 10 ^ 18 ≤ ns[a]
      · obtain ⟨s', v, hv, e⟩ := take_tail B (n := n) (cells := ns.map D.int) (c := ns[a]) (k := 60) (a := a + 1) (G := G) (r2 := some (.int a)) (r3 := some (.int ns[a])) (r4 := none) m1 m2
        refine ⟨s', v, hv, ?_⟩
        simp [Lib._law_take2, HB_def, ixN, atI, binR_pow, atI_nat] at e
        simp at hc
        simp [Lib._law_take2, HB_def, ixN, atI, hl, hg, hc, binR_pow, atI_nat]
        exact e
      · obtain ⟨s', v, hv, e⟩ := take_tail B (n := n) (cells := ns.map D.int) (c := ns[a]) (k := -9) (a := a + 1) (G := G) (r2 := some (.int a)) (r3 := some (.int ns[a])) (r4 := none) m1 m2
        refine ⟨s', v, hv, ?_⟩
        simp [Lib._law_take2, HB_def, ixN, atI, binR_pow, atI_nat] at e
        have hc' : ¬ (1000000000000000000 : Int) ≤ ns[a] := by simpa using hc
        simp [Lib._law_take2, HB_def, ixN, atI, hl, hg, hc', binR_pow, atI_nat]
        exact e
    · have hl : ¬ (a : Int) < (ns.length : Int) := by omega
      refine ⟨(0, 0, a + 1), 0, by simpa using m1, ?_⟩
      simp [Lib._law_take2, HB_def, ixN, atI, hl]
  · obtain ⟨s', v, hv, e⟩ := take_tail B (n := n) (cells := ns.map D.int) (c := c) (k := k) (a := a) (G := G) (r2 := none) (r3 := none) (r4 := none) m1 m2
    refine ⟨s', v, hv, ?_⟩
    simp [Lib._law_take2, HB_def, ixN, atI, hk] at e
    simp [Lib._law_take2, HB_def, ixN, atI, hk]
    exact e
theorem pick_ok {n : Nat} {ns : List Int} {s : Int × Int × Nat} {G : LH} {r : Nat} {xs : List D} (h : (HB (ns.map D.int) s G)[r]? = some (.lst xs)) (h2 : r ≠ 1) (h0 : xs ≠ []) (h1 : xs.length ≤ 1000) : ∃ s' x, x ∈ xs ∧ run cfg (n + 2) 87 [.ref 1, .ref r] (HB (ns.map D.int) s G) = .ok x (HB (ns.map D.int) s' G) := by
  have hl : 0 < xs.length := List.length_pos_iff.mpr h0
  obtain ⟨s', v, hv, e⟩ := take_ok B (n := n) (m := (xs.length : Int)) (ns := ns) (s := s) (G := G) (by omega) (by omega)
  have hv' : v < xs.length := by omega
  refine ⟨s', xs[v], List.getElem_mem hv', ?_⟩
  have h' : (HB (ns.map D.int) s' G)[r]? = some (.lst xs) := by
    match r, h, h2 with
    | 0, h, _ => exact h
    | r + 2, h, _ => exact h
  rw [run_succ, runDef_of B.d87 rfl]
  simp [Lib._law_pick, h, h', e, atI_nat, List.getElem?_eq_getElem hv']
end
end Ap

end
section
set_option linter.all false
set_option maxRecDepth 100000
set_option maxHeartbeats 1000000
/-! The drawing of statements and terms. -/
namespace Ap
open Ev
/-- the head of a program that is being drawn -/
structure Hd (P : Prog) : Prop where
  shp : ∀ t, ∀ sh ∈ P.shapes t, sh.length ≤ 3 ∧ ∀ s ∈ sh, SlotOk P s
  shn : ∀ t, t < P.decls.length → 1 ≤ (P.shapes t).length ∧ (P.shapes t).length ≤ 4
  par : ∀ j, (P.params j).length ≤ 3 ∧ ∀ s ∈ P.params j, SlotOk P s
  dec : 1 ≤ P.decls.length ∧ P.decls.length ≤ 5
  dfs : 1 ≤ P.defs.length ∧ P.defs.length ≤ 6
def eHead (P : Prog) : D := .tup [eDecls P.decls, .tup (P.defs.map fun d => eSlots d.1)]
theorem Hd.shape {P : Prog} (H : Hd P) {t h : Nat} (hh : h < (P.shapes t).length) : (P.shape t h).length ≤ 3 ∧ ∀ s ∈ P.shape t h, SlotOk P s :=
  H.shp t _ (List.mem_of_getElem? (P.shape_at hh))
/-! ### loops -/
def all2 {α β : Type} (Q : α → β → Prop) : List α → List β → Prop
  | [], [] => True
  | a :: as, b :: bs => Q a b ∧ all2 Q as bs
  | _, _ => False
theorem gen_loop {α β : Type} {toD : α → D} {rD : β → D} {step : D → List D → LH → R (Step (List D) Unit)} {Q : α → β → Prop} {cells : List D} : ∀ (ks : List α),
    (∀ k ∈ ks, ∀ (acc : List D) (s : Int × Int × Nat) (G : LH), acc.length ≤ 1000 → ∃ s' G' x, step (toD k) acc (HB cells s G) = .ok (.more (acc ++ [rD x])) (HB cells s' (G ++ G')) ∧ Q k x) →
    ∀ (acc : List D) (s : Int × Int × Nat) (G : LH), acc.length + ks.length ≤ 1000 → ∃ s' G' xs, loopI step (ks.map toD) acc (HB cells s G) = .ok (.more (acc ++ xs.map rD)) (HB cells s' (G ++ G')) ∧ all2 Q ks xs
  | [], _, acc, s, G, _ => ⟨s, [], [], by simp [loopI], trivial⟩
  | k :: ks, h, acc, s, G, hl => by
    simp at hl
    obtain ⟨s1, G1, x, e1, q1⟩ := h k List.mem_cons_self acc s G (by omega)
    obtain ⟨s2, G2, xs, e2, q2⟩ := gen_loop ks (fun k m => h k (List.mem_cons_of_mem _ m)) (acc ++ [rD x]) s1 (G ++ G1) (by simp; omega)
    refine ⟨s2, G1 ++ G2, x :: xs, ?_, q1, q2⟩
    simp only [List.map_cons, loopI, e1, bind_ok, e2]
    simp
theorem all2_ts {P : Prog} {ctx : List Slot} {N : Nat} : ∀ {sl : List Slot} {xs : List T}, all2 (fun s x => okT P ctx s x ∧ td x ≤ N) sl xs → okTs P ctx sl xs ∧ tds xs ≤ N
  | [], [], _ => ⟨rfl, by simp [tds]⟩
  | s :: sl, x :: xs, h => by
    obtain ⟨⟨h1, h2⟩, h3⟩ := h
    obtain ⟨i1, i2⟩ := all2_ts h3
    refine ⟨⟨s, sl, rfl, h1, i1⟩, ?_⟩
    simp only [tds]
    omega
  | [], _ :: _, h => h.elim
  | _ :: _, [], h => h.elim
theorem all2_bs {P : Prog} {ctx : List Slot} {N : Nat} : ∀ {sl : List (List Slot)} {xs : List T}, all2 (fun s x => okS P (ctx ++ s) x ∧ td x ≤ N) sl xs → okBs P ctx sl xs ∧ tds xs ≤ N
  | [], [], _ => ⟨rfl, by simp [tds]⟩
  | s :: sl, x :: xs, h => by
    obtain ⟨⟨h1, h2⟩, h3⟩ := h
    obtain ⟨i1, i2⟩ := all2_bs h3
    refine ⟨⟨s, sl, rfl, h1, i1⟩, ?_⟩
    simp only [tds]
    omega
  | [], _ :: _, h => h.elim
  | _ :: _, [], h => h.elim
theorem filt_loop {step : D → List D → LH → R (Step (List D) Unit)} {p : Nat → Bool} {L : LH} : ∀ (ks : List Nat),
    (∀ k ∈ ks, ∀ (acc : List D), acc.length ≤ 1000 → step (.int (k : Int)) acc L = .ok (.more (if p k then acc ++ [.int (k : Int)] else acc)) L) →
    ∀ (acc : List D), acc.length + ks.length ≤ 1000 → loopI step (ks.map fun (i : Nat) => D.int (i : Int)) acc L = .ok (.more (acc ++ (ks.filter p).map fun (i : Nat) => D.int (i : Int))) L
  | [], _, acc, _ => by simp [loopI]
  | k :: ks, h, acc, hl => by
    simp at hl
    have e1 := h k List.mem_cons_self acc (by omega)
    simp only [List.map_cons, loopI, e1, bind_ok]
    rcases Bool.eq_false_or_eq_true (p k) with hp | hp
    · have e2 := filt_loop ks (fun k m => h k (List.mem_cons_of_mem _ m)) (acc ++ [.int (k : Int)]) (by simp; omega)
      simp [hp, e2]
    · have e2 := filt_loop ks (fun k m => h k (List.mem_cons_of_mem _ m)) acc (by omega)
      simp [hp, e2]
theorem eqR_slot2 {L : LH} {a b : Slot} : eqR L (eSlot a) (eSlot b) = some (decide (a = b)) := by
  obtain ⟨x, i⟩ := a
  obtain ⟨y, j⟩ := b
  cases x <;> cases y <;> simp [eqR, eSlot, eSide, D.pure, D.pures, D.dep, D.deps, D.eqv, D.eqvs]
  · by_cases h : i = j
    · simp [h]
    · have : ¬ (i : Int) = j := by omega
      simp [h, this]
  · by_cases h : i = j
    · simp [h]
    · have : ¬ (i : Int) = j := by omega
      simp [h, this]
theorem pures_slots : ∀ l : List Slot, D.pures (l.map eSlot) = true ∧ D.deps (l.map eSlot) ≤ 2
  | [] => by simp [D.pures, D.deps]
  | s :: l => by
    obtain ⟨h1, h2⟩ := pures_slots l
    simp [D.pures, D.deps, eSlot, eSide, D.pure, D.dep, h1]
    omega
theorem eqR_nil {L : LH} {l : List Slot} : eqR L (.tup (l.map eSlot)) (.tup []) = some (decide (l = [])) := by
  obtain ⟨h1, h2⟩ := pures_slots l
  have h3 : 1 + D.deps (l.map eSlot) ≤ 180 := by omega
  cases l with
  | nil => simp [eqR, D.pure, D.pures, D.dep, D.deps, D.eqv, D.eqvs]
  | cons s l => simp at h1 h3; simp [eqR, D.pure, h1, D.dep, h3, D.eqv, D.eqvs, D.pures]
/-! ### statements -/
def GS (cfg : Cfg) (P : Prog) (ns : List Int) (n : Nat) : Prop := ∀ (ctx : List Slot) (b : Int) (s : Int × Int × Nat) (G : LH), (∀ x ∈ ctx, SlotOk P x) → ctx.length + 3 * (b.toNat + 2) ≤ 1000 → b.toNat + 2 ≤ n →
  ∃ s' G' x, run cfg n 151 [.ref 1, eHead P, eSlots ctx, .int b] (HB (ns.map D.int) s G) = .ok (enc x) (HB (ns.map D.int) s' (G ++ G')) ∧ okS P ctx x ∧ td x ≤ b.toNat + 1
def GT (cfg : Cfg) (P : Prog) (ns : List Int) (n : Nat) : Prop := ∀ (ctx : List Slot) (sl : Slot) (b : Int) (s : Int × Int × Nat) (G : LH), (∀ x ∈ ctx, SlotOk P x) → SlotOk P sl → ctx.length + 3 * (max b.toNat 1 + 2) ≤ 1000 → max b.toNat 1 + 2 ≤ n →
  ∃ s' G' x, run cfg n 152 [.ref 1, eHead P, eSlots ctx, eSlot sl, .int b] (HB (ns.map D.int) s G) = .ok (enc x) (HB (ns.map D.int) s' (G ++ G')) ∧ okT P ctx sl x ∧ td x ≤ max b.toNat 1 + 1
/-- a share -/
theorem share_le {b : Int} {j : Int} (hb : 1 < b) (hj : 0 < j) : ((b - 1) / j).toNat ≤ (b - 1).toNat ∧ max ((b - 1) / j).toNat 1 + 1 ≤ b.toNat := by
  have h1 : (b - 1) / j ≤ b - 1 := Int.ediv_le_self _ (by omega)
  omega
section
variable {cfg : Cfg} (B : Base cfg) {P : Prog} {ns : List Int}
include B
theorem gen_s (H : Hd P) {n : Nat} (ihT : GT cfg P ns (n + 1)) : GS cfg P ns (n + 2) := by
  intro ctx b s G hc hl hn
  rw [run_succ, runDef_of B.d151 rfl]
  obtain ⟨s1, v, hv, e1⟩ := take_ok B (n := n) (m := 8) (ns := ns) (s := s) (G := G) (by omega) (by omega)
  by_cases hb : b ≤ 1 ∨ v = 0
  · obtain ⟨s2, v2, hv2, e2⟩ := take_ok B (n := n) (m := 10) (ns := ns) (s := s1) (G := G) (by omega) (by omega)
    refine ⟨s2, [], .stop v2, ?_, by simp [okS]; omega, by simp [td]⟩
    rcases hb with hb | hb
    · simp [Lib._law_statement2, e1, hb, e2, enc]
    · by_cases hb2 : b ≤ 1 <;> simp [Lib._law_statement2, e1, hb, hb2, e2, enc]
  · have hb1 : ¬ b ≤ 1 := fun h => hb (.inl h)
    have hv0 : ¬ v = 0 := fun h => hb (.inr h)
    by_cases h4 : (v : Int) < 4
    · obtain ⟨s2, j, hj, e2⟩ := take_ok B (n := n) (m := (P.defs.length : Int)) (ns := ns) (s := s1) (G := G) (by have := H.dfs; omega) (by have := H.dfs; omega)
      have hj : j < P.defs.length := by omega
      obtain ⟨d, hd, hd1, hd2⟩ := prog_params B hj
      have hp := H.par j
      rw [← hd1] at hp
      obtain ⟨m, hm⟩ : ∃ m : Int, m = if (d.1.length : Int) > 1 then (d.1.length : Int) else 1 := ⟨_, rfl⟩
      have m1 : 0 < m := by rw [hm]; split <;> omega
      have m2 : m < 1073741824 := by rw [hm]; split <;> omega
      obtain ⟨z1, z2⟩ := share_le (b := b) (j := m) (by omega) m1
      obtain ⟨s3, G3, xs, e3, q⟩ := gen_loop (toD := eSlot) (rD := enc) (cells := ns.map D.int) (Q := fun sl x => okT P ctx sl x ∧ td x ≤ b.toNat) (step := turnC cfg (run cfg (n + 1)) (calls cfg (n + 1)).2 (.name 8) [8] [] (.call 152 [.var 0, .var 1, .var 2, .var 8, .var 7]) [some (.ref 1), some (eHead P), some (eSlots ctx), some (.int b), some (.int v), none, some (.int j), some (.int ((b - 1) / m)), none]) d.1
        (fun sl ms acc s G ha => by
          obtain ⟨s', G', x, e, ho, ht⟩ := ihT ctx sl ((b - 1) / m) s G hc (hp.2 sl ms) (by omega) (by omega)
          have ha' : acc.length < most := by unfold most; omega
          exact ⟨s', G', x, by simp [turnC_def, e, ha'], ho, by omega⟩) [] s2 G (by simp; omega)
      obtain ⟨q1, q2⟩ := all2_ts q
      refine ⟨s3, G3 ++ [.lst (encs xs)], .call j xs, ?_, ?_, ?_⟩
      · simp [eHead, eSlots] at e3
        simp [Lib._law_statement2, e1, hb1, hv0, h4, eHead, e2, hd, eSlots, ← hm, m1, m2, e3, enc, encs_map]
      · simp only [okS]
        rw [← hd1]
        exact ⟨hj, q1⟩
      · simp only [td]
        omega
    · obtain ⟨s2, t, ht, e2⟩ := take_ok B (n := n) (m := (P.decls.length : Int)) (ns := ns) (s := s1) (G := G) (by have := H.dec; omega) (by have := H.dec; omega)
      have ht : t < P.decls.length := by omega
      obtain ⟨z1, z2⟩ := share_le (b := b) (j := 2) (by omega) (by omega)
      obtain ⟨s3, G3, x, e3, o3, t3⟩ := ihT ctx (true, t) ((b - 1) / 2) s2 G hc ht (by omega) (by omega)
      obtain ⟨s4, G4, y, e4, o4, t4⟩ := ihT ctx (false, t) ((b - 1) / 2) s3 (G ++ G3) hc ht (by omega) (by omega)
      refine ⟨s4, G3 ++ G4, .cut t x y, ?_, ⟨ht, o3, o4⟩, ?_⟩
      · simp [eSlot, eSide, eHead, eDecls] at e3 e4
        simp [Lib._law_statement2, e1, hb1, hv0, h4, eHead, eDecls, e2, e3, e4, enc]
      · simp only [td]
        omega
end
end Ap

end
section
set_option linter.all false
set_option maxRecDepth 100000
set_option maxHeartbeats 1000000
/-! The drawing of terms. -/
namespace Ap
open Ev
theorem eqR_nil0 {L : LH} : eqR L (.tup []) (.tup []) = some true := by
  have := eqR_nil (L := L) (l := [])
  simpa using this
theorem mem_filt {p : Nat → Bool} {m : Nat} {x : D} (h : x ∈ ((List.range m).filter p).map fun (i : Nat) => D.int (i : Int)) : ∃ k, x = .int (k : Nat) ∧ p k = true ∧ k < m := by
  obtain ⟨k, h1, h2⟩ := List.mem_map.mp h
  obtain ⟨h3, h4⟩ := List.mem_filter.mp h1
  exact ⟨k, h2.symm, h4, List.mem_range.mp h3⟩
section
variable {cfg : Cfg} (B : Base cfg) {P : Prog} {ns : List Int}
include B
theorem gen_t2 (H : Hd P) {n : Nat} (ihS : GS cfg P ns (n + 2)) (ihT : GT cfg P ns (n + 2)) {ctx : List Slot} {p : Bool} {t : Nat} {b : Int} {s : Int × Int × Nat} {G : LH} {r5 : Option D} {d : Decl} {hs : List Nat} {q : Nat} (hc : ∀ x ∈ ctx, SlotOk P x) (hl : ctx.length + 3 * (max b.toNat 1 + 2) ≤ 1000) (hn : max b.toNat 1 + 2 ≤ n + 3) (hd : P.decls[t]? = some d) (hq : G[q]? = some (.lst (hs.map fun (i : Nat) => D.int (i : Int)))) (hh : ∀ h ∈ hs, d.2[h]? = some []) (hhl : hs.length ≤ 1000) :
    ∃ s' G' x, (evB cfg (run cfg (n + 2)) (calls cfg (n + 2)).2 (Lib._law_term3.body.drop 5) [some (.ref 1), some (eHead P), some (eSlots ctx), some (eSlot (p, t)), some (.int b), r5, some (.bl (p == d.1)), some (.ref (q + 2)), none, none, some (.str (if d.1 then 4 else 14)), some (.tup (d.2.map eSlots)), none, none, none, none] (HB (ns.map D.int) s G)).bind endD = .ok (enc x) (HB (ns.map D.int) s' (G ++ G')) ∧ okT P ctx (p, t) x ∧ td x ≤ max b.toNat 1 + 1 := by
  have ht : t < P.decls.length := (List.getElem?_eq_some_iff.mp hd).1
  have mk : P.makes t = d.1 := by unfold Prog.makes; rw [hd]
  have sh : P.shapes t = d.2 := by unfold Prog.shapes; rw [hd]
  obtain ⟨n1, n4⟩ := H.shn t ht
  rw [sh] at n1 n4
  have bindc : ∀ s, ∃ s' G' x, run cfg (n + 2) 151 [.ref 1, eHead P, eSlots (ctx ++ [(!p, t)]), .int (b - 1)] (HB (ns.map D.int) s G) = .ok (enc x) (HB (ns.map D.int) s' (G ++ G')) ∧ okT P ctx (p, t) (.bind x) ∧ td (.bind x) ≤ max b.toNat 1 + 1 := fun s => by
    obtain ⟨s', G', x, e, o, q⟩ := ihS (ctx ++ [(!p, t)]) (b - 1) s G (fun x m => by
      rcases List.mem_append.mp m with m | m
      · exact hc x m
      · simp at m; subst m; exact ht) (by simp; omega) (by omega)
    exact ⟨s', G', x, e, o, by simp only [td]; omega⟩
  have cl : ctx.length + 1 ≤ most := by unfold most; omega
  by_cases hb : b ≤ 1
  · by_cases hm : (p == d.1) = true ∧ hs ≠ []
    · obtain ⟨hm1, hm2⟩ := hm
      obtain ⟨s1, x, hx, e1⟩ := pick_ok B (n := n) (ns := ns) (s := s) (G := G) (r := q + 2) (xs := hs.map fun (i : Nat) => D.int (i : Int)) (by simpa using hq) (by omega) (by simpa using hm2) (by simpa using hhl)
      obtain ⟨h, hm3, rfl⟩ := List.mem_map.mp hx
      have hg := hh h hm3
      have hlt : h < (P.shapes t).length := by rw [sh]; exact (List.getElem?_eq_some_iff.mp hg).1
      refine ⟨s1, [], .make h [], ?_, ⟨?_, hlt, ?_⟩, by simp [td, tds]⟩
      · have hp : p = d.1 := by simpa using hm1
        have hm3' : hs.isEmpty = false := by simpa using hm2
        simp [Lib._law_term3, hb, hq, hp, hm2, hm3', e1, enc, encs]
      · simp only [mk]
        simpa using hm1
      · have hsh := P.shape_at hlt
        rw [sh, hg] at hsh
        simp at hsh
        simp only [okTs]
        exact hsh
    · obtain ⟨s1, G1, x, e1, o1, t1⟩ := bindc s
      refine ⟨s1, G1, .bind x, ?_, o1, t1⟩
      simp [eSlots, eHead, eDecls] at e1
      by_cases hm1 : p = d.1
      · have hm2 : hs = [] := by
          by_cases h0 : hs = []
          · exact h0
          · exact absurd ⟨by simpa using hm1, h0⟩ hm
        subst hm2
        cases p <;> simp [eSlot, eSide] at e1 <;> simp [Lib._law_term3, hb, hq, ← hm1, eHead, eDecls, eSlots, eSlot, eSide, cl, e1, enc]
      · have hm3 : d.1 = !p := by cases p <;> cases h1 : d.1 <;> simp [h1] at hm1 ⊢
        cases p <;> simp [eSlot, eSide] at e1 <;> simp [Lib._law_term3, hb, hq, hm3, eHead, eDecls, eSlots, eSlot, eSide, cl, e1, enc]
  · obtain ⟨s0, v, hv, e0⟩ := take_ok B (n := n + 1) (m := 3) (ns := ns) (s := s) (G := G) (by omega) (by omega)
    by_cases hv0 : v = 0
    · obtain ⟨s1, G1, x, e1, o1, t1⟩ := bindc s0
      refine ⟨s1, G1, .bind x, ?_, o1, t1⟩
      simp [eSlots, eHead, eDecls] at e1
      cases p <;> simp [eSlot, eSide] at e1 <;> simp [Lib._law_term3, hb, e0, hv0, eHead, eDecls, eSlots, eSlot, eSide, cl, e1, enc]
    · by_cases hm1 : p = d.1
      · obtain ⟨s2, h, hj, e2⟩ := take_ok B (n := n + 1) (m := (d.2.length : Int)) (ns := ns) (s := s0) (G := G) (by omega) (by omega)
        have hj' : h < (P.shapes t).length := by rw [sh]; omega
        have hg : d.2[h]? = some (P.shape t h) := by rw [← sh]; exact P.shape_at hj'
        obtain ⟨hp1, hp2⟩ := H.shape hj'
        obtain ⟨m, hm⟩ : ∃ m : Int, m = if ((P.shape t h).length : Int) > 1 then ((P.shape t h).length : Int) else 1 := ⟨_, rfl⟩
        have m1 : 0 < m := by rw [hm]; split <;> omega
        have m2 : m < 1073741824 := by rw [hm]; split <;> omega
        obtain ⟨z1, z2⟩ := share_le (b := b) (j := m) (by omega) m1
        obtain ⟨s3, G3, xs, e3, q⟩ := gen_loop (toD := eSlot) (rD := enc) (cells := ns.map D.int) (Q := fun sl x => okT P ctx sl x ∧ td x ≤ b.toNat) (step := turnC cfg (run cfg (n + 2)) (calls cfg (n + 2)).2 (.name 14) [14] [] (.call 152 [.var 0, .var 1, .var 2, .var 14, .var 9]) [some (.ref 1), some (eHead P), some (eSlots ctx), some (eSlot (p, t)), some (.int b), r5, some (.bl (p == d.1)), some (.ref (q + 2)), some (.int h), some (.int ((b - 1) / m)), some (.str (if d.1 then 4 else 14)), some (.tup (d.2.map eSlots)), none, none, none, none]) (P.shape t h)
          (fun sl ms acc s G ha => by
            obtain ⟨s', G', x, e, ho, ht⟩ := ihT ctx sl ((b - 1) / m) s G hc (hp2 sl ms) (by omega) (by omega)
            have ha' : acc.length < most := by unfold most; omega
            exact ⟨s', G', x, by simp [turnC_def, e, ha'], ho, by omega⟩) [] s2 G (by simp; omega)
        obtain ⟨q1, q2⟩ := all2_ts q
        refine ⟨s3, G3 ++ [.lst (encs xs)], .make h xs, ?_, ⟨?_, hj', q1⟩, ?_⟩
        · simp [eHead, eSlots, hm1, eDecls] at e3
          simp [Lib._law_term3, hb, e0, hv0, hm1, e2, hg, eHead, eDecls, eSlots, ← hm, m1, m2, e3, enc, encs_map]
        · simp only [mk]
          exact hm1
        · simp only [td]
          omega
      · obtain ⟨z1, z2⟩ := share_le (b := b) (j := (d.2.length : Int)) (by omega) (by omega)
        obtain ⟨s3, G3, xs, e3, q⟩ := gen_loop (toD := eSlots) (rD := enc) (cells := ns.map D.int) (Q := fun sl x => okS P (ctx ++ sl) x ∧ td x ≤ b.toNat) (step := turnC cfg (run cfg (n + 2)) (calls cfg (n + 2)).2 (.name 15) [15] [] (.call 151 [.var 0, .var 1, .bin .add (.var 2) (.var 15), .var 9]) [some (.ref 1), some (eHead P), some (eSlots ctx), some (eSlot (p, t)), some (.int b), r5, some (.bl (p == d.1)), some (.ref (q + 2)), none, some (.int ((b - 1) / (d.2.length : Int))), some (.str (if d.1 then 4 else 14)), some (.tup (d.2.map eSlots)), none, none, none, none]) d.2
          (fun sl ms acc s G ha => by
            obtain ⟨w1, w2⟩ := H.shp t sl (by rw [sh]; exact ms)
            obtain ⟨s', G', x, e, ho, ht⟩ := ihS (ctx ++ sl) ((b - 1) / (d.2.length : Int)) s G (fun x m => by
              rcases List.mem_append.mp m with m | m
              · exact hc x m
              · exact w2 x m) (by simp; omega) (by omega)
            have ha' : acc.length < most := by unfold most; omega
            have hc' : ctx.length + sl.length ≤ most := by unfold most; omega
            simp [eSlots] at e
            exact ⟨s', G', x, by simp [turnC_def, eSlots, hc', e, ha'], ho, by omega⟩) [] s0 G (by simp; omega)
        obtain ⟨q1, q2⟩ := all2_bs q
        have d1 : 0 < d.2.length := by omega
        have d2 : (d.2.length : Int) < 1073741824 := by omega
        refine ⟨s3, G3 ++ [.lst (encs xs)], .mtch xs, ?_, ⟨?_, ?_⟩, ?_⟩
        · simp [eHead, eDecls, eSlots] at e3
          simp [Lib._law_term3, hb, e0, hv0, hm1, eHead, eDecls, eSlots, d1, d2, e3, enc, encs_map]
        · simp only [mk]
          cases p <;> cases hd1 : d.1 <;> simp [hd1] at hm1 ⊢
        · rw [sh]; exact q1
        · simp only [td]
          omega
theorem gen_t (H : Hd P) {n : Nat} (ihS : GS cfg P ns (n + 2)) (ihT : GT cfg P ns (n + 2)) : GT cfg P ns (n + 3) := by
  intro ctx sl b s G hc hs hl hn
  obtain ⟨p, t⟩ := sl
  have ht : t < P.decls.length := hs
  obtain ⟨d, hd, hd2⟩ := prog_shapes B ht
  rw [run_succ, runDef_of B.d152 rfl]
  have c0 : ctx.length ≤ 1000 := by omega
  obtain ⟨ks, hks⟩ : ∃ ks, ks = (List.range ctx.length).filter fun k => decide (ctx[k]? = some (p, t)) := ⟨_, rfl⟩
  obtain ⟨hs, hhs⟩ : ∃ hs, hs = (List.range d.2.length).filter fun k => decide (d.2[k]? = some []) := ⟨_, rfl⟩
  have n4 := (H.shn t ht).2
  rw [← hd2] at n4
  have lk : ∀ L, loopI (turnC cfg (run cfg (n + 2)) (calls cfg (n + 2)).2 (.name 13) [13] [.cmp .eq (.idx (.var 2) (.var 13)) (.var 3)] (.var 13) [some (.ref 1), some (eHead P), some (eSlots ctx), some (eSlot (p, t)), some (.int b), none, none, none, none, none, none, none, none, none, none, none]) ((List.range ctx.length).map fun (i : Nat) => D.int (i : Int)) [] L = .ok (.more (ks.map fun (i : Nat) => D.int (i : Int))) L := fun L => by
    rw [hks]
    exact filt_loop (p := fun k => decide (ctx[k]? = some (p, t))) (List.range ctx.length) (fun k mk acc ha => by
      have hk : k < ctx.length := List.mem_range.mp mk
      have hg : ctx[k]? = some ctx[k] := List.getElem?_eq_getElem hk
      have ha' : acc.length < most := by unfold most; omega
      by_cases he : ctx[k] = (p, t)
      · simp [turnC_def, eSlots, hg, eqR_slot2, he, ha']
      · simp [turnC_def, eSlots, hg, eqR_slot2, he, ha']) [] (by simp; omega)
  have lh : ∀ (L : LH) (r5 r6 : Option D), loopI (turnC cfg (run cfg (n + 2)) (calls cfg (n + 2)).2 (.name 8) [8] [.cmp .eq (.idx (.var 11) (.var 8)) (.tup [])] (.var 8) [some (.ref 1), some (eHead P), some (eSlots ctx), some (eSlot (p, t)), some (.int b), r5, r6, none, none, none, some (.str (if d.1 then 4 else 14)), some (.tup (d.2.map eSlots)), none, none, none, none]) ((List.range d.2.length).map fun (i : Nat) => D.int (i : Int)) [] L = .ok (.more (hs.map fun (i : Nat) => D.int (i : Int))) L := fun L r5 r6 => by
    rw [hhs]
    exact filt_loop (p := fun k => decide (d.2[k]? = some [])) (List.range d.2.length) (fun k mk acc ha => by
      have hk : k < d.2.length := List.mem_range.mp mk
      have hg : d.2[k]? = some d.2[k] := List.getElem?_eq_getElem hk
      have ha' : acc.length < most := by unfold most; omega
      by_cases he : d.2[k] = []
      · simp [turnC_def, eSlots, hg, eqR_nil, eqR_nil0, he, ha']
      · simp [turnC_def, eSlots, hg, eqR_nil, eqR_nil0, he, ha']) [] (by simp; omega)
  have rest : ∀ s, ∃ s' G' x, (evB cfg (run cfg (n + 2)) (calls cfg (n + 2)).2 (Lib._law_term3.body.drop 2) [some (.ref 1), some (eHead P), some (eSlots ctx), some (eSlot (p, t)), some (.int b), some (.ref (G.length + 2)), none, none, none, none, none, none, none, none, none, none] (HB (ns.map D.int) s (G ++ [.lst (ks.map fun (i : Nat) => D.int (i : Int))]))).bind endD = .ok (enc x) (HB (ns.map D.int) s' (G ++ G')) ∧ okT P ctx (p, t) x ∧ td x ≤ max b.toNat 1 + 1 := fun s => by
    obtain ⟨s', G', x, e, o, q⟩ := gen_t2 B H (ihS := ihS) (ihT := ihT) (ctx := ctx) (p := p) (t := t) (b := b) (s := s) (G := G ++ [.lst (ks.map fun (i : Nat) => D.int (i : Int))] ++ [.lst (hs.map fun (i : Nat) => D.int (i : Int))]) (r5 := some (.ref (G.length + 2))) (d := d) (hs := hs) (q := G.length + 1) hc hl hn hd (by simp) (fun h m => by rw [hhs] at m; simpa using (List.mem_filter.mp m).2) (by rw [hhs]; have := List.length_filter_le (fun k => decide (d.2[k]? = some [])) (List.range d.2.length); simp at this; omega)
    refine ⟨s', .lst (ks.map fun (i : Nat) => D.int (i : Int)) :: .lst (hs.map fun (i : Nat) => D.int (i : Int)) :: G', x, ?_, o, q⟩
    have n4' : d.2.length ≤ 1000 := by omega
    have src : ∀ L, srcR .rng1 L [.int (d.2.length : Int)] = _ := fun L => srcR_rng n4'
    simp [Lib._law_term3, eHead, eDecls, eSlots, eSlot] at lh
    simp [Lib._law_term3, eHead, eDecls, eSlots, eSlot] at e
    have em : ∀ L, cmpR .eq L (eSide p) (if d.1 = true then D.str 0 else D.str 1) = some (p == d.1) := fun L => by cases p <;> cases d.1 <;> simp [eSide]
    cases hd1 : d.1 <;> rw [hd1] at e lh em <;> simp at e lh em <;> simp [Lib._law_term3, eHead, eDecls, hd, eDecl, hd1, eSlot, em, src, lh, eSlots] <;> exact e
  have src : ∀ L, srcR .rng1 L [.int (ctx.length : Int)] = _ := fun L => srcR_rng c0
  by_cases hk0 : ks = []
  · obtain ⟨s', G', x, e, o, q⟩ := rest s
    refine ⟨s', G', x, ?_, o, q⟩
    simp [Lib._law_term3, hk0, eSlots] at e
    simp [hk0, eSlots] at lk
    simp [Lib._law_term3, eSlots, src, lk]
    exact e
  · have kl : ks.length ≤ 1000 := by rw [hks]; have := List.length_filter_le (fun k => decide (ctx[k]? = some (p, t))) (List.range ctx.length); simp at this; omega
    have pk : ∀ s, ∃ s' k, run cfg (n + 2) 87 [.ref 1, .ref (G.length + 2)] (HB (ns.map D.int) s (G ++ [.lst (ks.map fun (i : Nat) => D.int (i : Int))])) = .ok (.int (k : Nat)) (HB (ns.map D.int) s' (G ++ [.lst (ks.map fun (i : Nat) => D.int (i : Int))])) ∧ ctx[k]? = some (p, t) := fun s => by
      obtain ⟨s1, x, hx, e1⟩ := pick_ok B (n := n) (ns := ns) (s := s) (G := G ++ [.lst (ks.map fun (i : Nat) => D.int (i : Int))]) (r := G.length + 2) (xs := ks.map fun (i : Nat) => D.int (i : Int)) (by simp) (by omega) (by simpa using hk0) (by simpa using kl)
      rw [hks] at hx
      obtain ⟨k, rfl, hk, _⟩ := mem_filt hx
      exact ⟨s1, k, e1, by simpa using hk⟩
    simp [eSlots] at lk
    have hk1 : ks.isEmpty = false := by simpa using hk0
    by_cases hb : b ≤ 1
    · obtain ⟨s1, k, e1, o1⟩ := pk s
      refine ⟨s1, [.lst (ks.map fun (i : Nat) => D.int (i : Int))], .var k, ?_, o1, by simp [td]⟩
      simp [Lib._law_term3, eSlots, src, lk, hk1, hb, e1, enc]
    · obtain ⟨s0, v, hv, e0⟩ := take_ok B (n := n + 1) (m := 3) (ns := ns) (s := s) (G := G ++ [.lst (ks.map fun (i : Nat) => D.int (i : Int))]) (by omega) (by omega)
      by_cases hv0 : v = 0
      · obtain ⟨s', G', x, e, o, q⟩ := rest s0
        refine ⟨s', G', x, ?_, o, q⟩
        simp [Lib._law_term3, hk0, eSlots] at e
        simp [Lib._law_term3, eSlots, src, lk, hk1, hb, e0, hv0]
        exact e
      · obtain ⟨s1, k, e1, o1⟩ := pk s0
        refine ⟨s1, [.lst (ks.map fun (i : Nat) => D.int (i : Int))], .var k, ?_, o1, by simp [td]⟩
        have hv1 : 0 < v := by omega
        simp [Lib._law_term3, eSlots, src, lk, hk1, hb, e0, hv0, hv1, e1, enc]
end
end Ap

end
section
set_option linter.all false
set_option maxRecDepth 100000
set_option maxHeartbeats 1000000
/-! The drawing of declarations. -/
namespace Ap
open Ev
/-- a for that appends to a list -/
theorem app_loop {α β : Type} {toD : α → D} {rD : β → D} {step : D → Env → LH → R (Step Env Fl)} {Q : β → Prop} {Inv : Env → Prop} {cells : List D} {A : LH} : ∀ (ks : List α),
    (∀ k ∈ ks, ∀ (ρ : Env) (xs : List β) (s : Int × Int × Nat) (X : LH), Inv ρ → xs.length ≤ 1000 → ∃ ρ' s' X' x, step (toD k) ρ (HB cells s (A ++ .lst (xs.map rD) :: X)) = .ok (.more ρ') (HB cells s' (A ++ .lst (xs.map rD ++ [rD x]) :: X')) ∧ Q x ∧ Inv ρ') →
    ∀ (ρ : Env) (xs : List β) (s : Int × Int × Nat) (X : LH), Inv ρ → xs.length + ks.length ≤ 1000 → (∀ x ∈ xs, Q x) →
      ∃ ρ' s' X' ys, loopI step (ks.map toD) ρ (HB cells s (A ++ .lst (xs.map rD) :: X)) = .ok (.more ρ') (HB cells s' (A ++ .lst (ys.map rD) :: X')) ∧ ys.length = xs.length + ks.length ∧ (∃ zs, ys = xs ++ zs) ∧ (∀ y ∈ ys, Q y) ∧ Inv ρ'
  | [], _, ρ, xs, s, X, hi, _, hq => ⟨ρ, s, X, xs, by simp [loopI], by simp, ⟨[], by simp⟩, hq, hi⟩
  | k :: ks, h, ρ, xs, s, X, hi, hl, hq => by
    simp at hl
    obtain ⟨ρ1, s1, X1, x, e1, q1, i1⟩ := h k List.mem_cons_self ρ xs s X hi (by omega)
    obtain ⟨ρ2, s2, X2, ys, e2, l2, ⟨zs, hz⟩, q2, i2⟩ := app_loop ks (fun k m => h k (List.mem_cons_of_mem _ m)) ρ1 (xs ++ [x]) s1 X1 i1 (by simp; omega) (fun y m => by
      rcases List.mem_append.mp m with m | m
      · exact hq y m
      · simp at m; subst m; exact q1)
    refine ⟨ρ2, s2, X2, ys, ?_, by simp at l2 ⊢; omega, ⟨x :: zs, by rw [hz]; simp⟩, q2, i2⟩
    simp only [List.map_cons, loopI, e1, bind_ok]
    simpa using e2
theorem all2_q {α β : Type} {Q : β → Prop} : ∀ {ks : List α} {xs : List β}, all2 (fun _ x => Q x) ks xs → (∀ x ∈ xs, Q x) ∧ xs.length = ks.length
  | [], [], _ => ⟨fun x m => by simp at m, rfl⟩
  | k :: ks, x :: xs, h => by
    obtain ⟨h1, h2⟩ := h
    obtain ⟨i1, i2⟩ := all2_q h2
    refine ⟨fun y m => ?_, by simp [i2]⟩
    rcases List.mem_cons.mp m with m | m
    · subst m; exact h1
    · exact i1 y m
  | [], _ :: _, h => h.elim
  | _ :: _, [], h => h.elim
section
variable {cfg : Cfg} (B : Base cfg) {P : Prog} {ns : List Int}
include B
theorem gen_all (H : Hd P) : ∀ n, GS cfg P ns n ∧ GT cfg P ns n
  | 0 => ⟨fun ctx b s G _ _ h => by omega, fun ctx sl b s G _ _ _ h => by omega⟩
  | 1 => ⟨fun ctx b s G _ _ h => by omega, fun ctx sl b s G _ _ _ h => by omega⟩
  | 2 => ⟨gen_s B H (n := 0) (fun ctx sl b s G _ _ _ h => by omega), fun ctx sl b s G _ _ _ h => by omega⟩
  | n + 3 => by
    obtain ⟨h1, h2⟩ := gen_all H (n + 2)
    exact ⟨gen_s B H h2, gen_t B H h1 h2⟩
/-- one of a written list of numbers -/
theorem menu_int {n : Nat} {s : Int × Int × Nat} {G : LH} (is : List Nat) (h0 : is ≠ []) (h1 : is.length ≤ 10) : ∃ s' k, k ∈ is ∧ run cfg (n + 2) 87 [.ref 1, .ref (G.length + 2)] (HB (ns.map D.int) s (G ++ [.lst (is.map fun (i : Nat) => D.int (i : Int))])) = .ok (.int (k : Nat)) (HB (ns.map D.int) s' (G ++ [.lst (is.map fun (i : Nat) => D.int (i : Int))])) := by
  obtain ⟨s', x, hx, e⟩ := pick_ok B (n := n) (ns := ns) (s := s) (G := G ++ [.lst (is.map fun (i : Nat) => D.int (i : Int))]) (r := G.length + 2) (xs := is.map fun (i : Nat) => D.int (i : Int)) (by simp) (by omega) (by simpa using h0) (by simp; omega)
  obtain ⟨k, hk, rfl⟩ := List.mem_map.mp hx
  exact ⟨s', k, hk, e⟩
/-- one of two words -/
theorem menu_two {n a b : Nat} {s : Int × Int × Nat} {G : LH} : ∃ s', ∃ z : Bool, run cfg (n + 2) 87 [.ref 1, .ref (G.length + 2)] (HB (ns.map D.int) s (G ++ [.lst [.str a, .str b]])) = .ok (.str (if z then a else b)) (HB (ns.map D.int) s' (G ++ [.lst [.str a, .str b]])) := by
  obtain ⟨s', x, hx, e⟩ := pick_ok B (n := n) (ns := ns) (s := s) (G := G ++ [.lst [.str a, .str b]]) (r := G.length + 2) (xs := [.str a, .str b]) (by simp) (by omega) (by simp) (by simp)
  simp at hx
  rcases hx with rfl | rfl
  · exact ⟨s', true, e⟩
  · exact ⟨s', false, e⟩
/-- a slot -/
theorem slot_row {n : Nat} {m : Nat} {s : Int × Int × Nat} {G : LH} (h0 : 0 < m) (h1 : m ≤ 10) : ∃ s' x, (run cfg (n + 2) 87 [.ref 1, .ref (G.length + 2)] (HB (ns.map D.int) s (G ++ [.lst [.str 0, .str 1]]))).bind (fun v L => (run cfg (n + 2) 132 [.ref 1, .int (m : Int)] L).bind fun w L => .ok (.tup [v, w]) L) = .ok (eSlot x) (HB (ns.map D.int) s' (G ++ [.lst [.str 0, .str 1]])) ∧ x.2 < m := by
  obtain ⟨s1, z, e1⟩ := menu_two B (n := n) (a := 0) (b := 1) (s := s) (G := G) (ns := ns)
  obtain ⟨s2, v, hv, e2⟩ := take_ok B (n := n + 1) (m := (m : Int)) (ns := ns) (s := s1) (G := G ++ [.lst [.str 0, .str 1]]) (by omega) (by omega)
  exact ⟨s2, (z, v), by simp only [e1, bind_ok, e2, eSlot, eSide], by simpa using hv⟩
def declD (P : Nat) (d : Decl) : Prop := 1 ≤ d.2.length ∧ d.2.length ≤ 4 ∧ ∀ sh ∈ d.2, sh.length ≤ 3 ∧ ∀ s ∈ sh, s.2 < P
omit B in
theorem range_map_int {m : Nat} {f : Nat → D} : (List.range m).map f = (List.range m).map f := rfl
/-- a row of slots -/
theorem shape_row {n m c : Nat} {s : Int × Int × Nat} {G : LH} {ρ1 ρ2 ρ3 ρ4 ρ5 : Option D} (h0 : 0 < m) (h1 : m ≤ 10) (hc : c ≤ 3) : ∃ s' G', ∃ sl : List Slot, loopI (turnC cfg (run cfg (n + 2)) (calls cfg (n + 2)).2 (.name 6) [6] [] (.tup [.call 87 [.var 0, .lst [.str 0, .str 1]], .call 132 [.var 0, .var 1]]) [some (.ref 1), some (.int (m : Int)), ρ2, ρ3, ρ4, ρ5, none]) ((List.range c).map fun (i : Nat) => D.int (i : Int)) [] (HB (ns.map D.int) s G) = .ok (.more (sl.map eSlot)) (HB (ns.map D.int) s' (G ++ G')) ∧ sl.length = c ∧ ∀ x ∈ sl, x.2 < m := by
  obtain ⟨s', G', xs, e, q⟩ := gen_loop (toD := fun (i : Nat) => D.int (i : Int)) (rD := eSlot) (cells := ns.map D.int) (Q := fun _ x => x.2 < m) (step := turnC cfg (run cfg (n + 2)) (calls cfg (n + 2)).2 (.name 6) [6] [] (.tup [.call 87 [.var 0, .lst [.str 0, .str 1]], .call 132 [.var 0, .var 1]]) [some (.ref 1), some (.int (m : Int)), ρ2, ρ3, ρ4, ρ5, none]) (List.range c)
    (fun k mk acc s G ha => by
      obtain ⟨s1, z, e1⟩ := menu_two B (n := n) (a := 0) (b := 1) (s := s) (G := G) (ns := ns)
      obtain ⟨s2, v, hv, e2⟩ := take_ok B (n := n + 1) (m := (m : Int)) (ns := ns) (s := s1) (G := G ++ [.lst [.str 0, .str 1]]) (by omega) (by omega)
      have ha' : acc.length < most := by unfold most; omega
      exact ⟨s2, [.lst [.str 0, .str 1]], (z, v), by simp [turnC_def, e1, e2, ha', eSlot, eSide], by simpa using hv⟩) [] s G (by simp; omega)
  obtain ⟨q1, q2⟩ := all2_q q
  exact ⟨s', G', xs, by simpa using e, by simpa using q2, q1⟩
/-- the loop of a declaration's shapes -/
theorem shapes_loop {n m c : Nat} {s : Int × Int × Nat} {A : LH} {ρ2 ρ3 q5 : Option D} (h0 : 0 < m) (h1 : m ≤ 10) (hc : c ≤ 4) (X : LH) : ∃ s' X' r5, ∃ shs : List (List Slot), loopI (turnF cfg (run cfg (n + 2)) (calls cfg (n + 2)).2 (.name 5) [.expr (.bm .append (.var 4) [.bf .tuple [.lc (.name 6) [6] .rng1 [.call 87 [.var 0, .lst [.int 0, .int 0, .int 1, .int 1, .int 2, .int 3]]] [] (.tup [.call 87 [.var 0, .lst [.str 0, .str 1]], .call 132 [.var 0, .var 1]])]])])
    ((List.range c).map fun (i : Nat) => D.int (i : Int)) [some (.ref 1), some (.int (m : Int)), ρ2, ρ3, some (.ref (A.length + 2)), q5, none] (HB (ns.map D.int) s (A ++ .lst [] :: X)) = .ok (.more [some (.ref 1), some (.int (m : Int)), ρ2, ρ3, some (.ref (A.length + 2)), r5, none]) (HB (ns.map D.int) s' (A ++ .lst (shs.map eSlots) :: X')) ∧ shs.length = c ∧ ∀ sh ∈ shs, sh.length ≤ 3 ∧ ∀ s ∈ sh, s.2 < m := by
  obtain ⟨ρ', s', X', ys, e, l, _, q, ⟨r5, i⟩⟩ := app_loop (toD := fun (i : Nat) => D.int (i : Int)) (rD := eSlots) (cells := ns.map D.int) (A := A) (Q := fun sh => sh.length ≤ 3 ∧ ∀ s ∈ sh, s.2 < m) (Inv := fun ρ => ∃ r5, ρ = [some (.ref 1), some (.int (m : Int)), ρ2, ρ3, some (.ref (A.length + 2)), r5, none])
    (step := turnF cfg (run cfg (n + 2)) (calls cfg (n + 2)).2 (.name 5) [.expr (.bm .append (.var 4) [.bf .tuple [.lc (.name 6) [6] .rng1 [.call 87 [.var 0, .lst [.int 0, .int 0, .int 1, .int 1, .int 2, .int 3]]] [] (.tup [.call 87 [.var 0, .lst [.str 0, .str 1]], .call 132 [.var 0, .var 1]])]])]) (List.range c)
    (fun k mk ρ xs s X hi hl => by
      obtain ⟨r5, rfl⟩ := hi
      obtain ⟨s1, c, hc, e1⟩ := menu_int B (n := n) (ns := ns) (s := s) (G := A ++ .lst (xs.map eSlots) :: X) [0, 0, 1, 1, 2, 3] (by simp) (by simp)
      have hc3 : c ≤ 3 := by simp at hc; omega
      obtain ⟨s2, G2, sl, e2, l2, q2⟩ := shape_row B (n := n) (m := m) (c := c) (ns := ns) (s := s1) (G := A ++ .lst (xs.map eSlots) :: (X ++ [.lst [.int 0, .int 0, .int 1, .int 1, .int 2, .int 3]])) (ρ1 := none) (ρ2 := ρ2) (ρ3 := ρ3) (ρ4 := some (.ref (A.length + 2))) (ρ5 := some (.int k)) h0 h1 hc3
      have src : ∀ L, srcR .rng1 L [.int (c : Int)] = _ := fun L => srcR_rng (by omega)
      have ml : xs.length < most := by unfold most; omega
      refine ⟨[some (.ref 1), some (.int (m : Int)), ρ2, ρ3, some (.ref (A.length + 2)), some (.int k), none], s2, X ++ .lst [.int 0, .int 0, .int 1, .int 1, .int 2, .int 3] :: (G2 ++ [.lst (sl.map eSlot)]), sl, ?_, ⟨by omega, q2⟩, ⟨_, rfl⟩⟩
      simp at e1 e2
      simp [turnF_def, bmOk, bmR, e1, src, e2, ml, eSlots])
    [some (.ref 1), some (.int (m : Int)), ρ2, ρ3, some (.ref (A.length + 2)), q5, none] [] s X ⟨_, rfl⟩ (by simp; omega) (fun x m => by simp at m)
  subst i
  exact ⟨s', X', r5, ys, by simpa using e, by simpa using l, q⟩
end
end Ap

end
section
set_option linter.all false
set_option maxRecDepth 100000
set_option maxHeartbeats 1000000
/-! The drawing of declarations, second part. -/
namespace Ap
open Ev
theorem at_more {A X Y : LH} {a b : LO} : (A ++ a :: (X ++ b :: Y))[A.length + (X.length + 1)]? = some b := by
  rw [List.getElem?_append_right (by omega)]
  simp
section
variable {cfg : Cfg} (B : Base cfg) {P : Prog} {ns : List Int}
include B
/-- the loop of the declarations -/
theorem decls_loop {n m c : Nat} {s : Int × Int × Nat} {A : LH} (h0 : 0 < m) (h1 : m ≤ 10) (hc : c ≤ 10) : ∃ s' X' ρ', ∃ ds : List Decl, loopI (turnF cfg (run cfg (n + 2)) (calls cfg (n + 2)).2 (.name 3) [.set 4 (.lst []), .for (.name 5) .rng1 [.call 87 [.var 0, .lst [.int 1, .int 2, .int 2, .int 3, .int 4]]] [.expr (.bm .append (.var 4) [.bf .tuple [.lc (.name 6) [6] .rng1 [.call 87 [.var 0, .lst [.int 0, .int 0, .int 1, .int 1, .int 2, .int 3]]] [] (.tup [.call 87 [.var 0, .lst [.str 0, .str 1]], .call 132 [.var 0, .var 1]])]])], .expr (.bm .append (.var 2) [.tup [.call 87 [.var 0, .lst [.str 4, .str 14]], .bf .tuple [.var 4]]])])
    ((List.range c).map fun (i : Nat) => D.int (i : Int)) [some (.ref 1), some (.int (m : Int)), some (.ref (A.length + 2)), none, none, none, none] (HB (ns.map D.int) s (A ++ [.lst []])) = .ok (.more ρ') (HB (ns.map D.int) s' (A ++ .lst (ds.map eDecl) :: X')) ∧ ρ'[2]? = some (some (.ref (A.length + 2))) ∧ ds.length = c ∧ ∀ d ∈ ds, declD m d := by
  obtain ⟨ρ', s', X', ys, e, l, _, q, ⟨r3, r4, r5, i⟩⟩ := app_loop (toD := fun (i : Nat) => D.int (i : Int)) (rD := eDecl) (cells := ns.map D.int) (A := A) (Q := declD m) (Inv := fun ρ => ∃ r3 r4 r5, ρ = [some (.ref 1), some (.int (m : Int)), some (.ref (A.length + 2)), r3, r4, r5, none])
    (step := turnF cfg (run cfg (n + 2)) (calls cfg (n + 2)).2 (.name 3) [.set 4 (.lst []), .for (.name 5) .rng1 [.call 87 [.var 0, .lst [.int 1, .int 2, .int 2, .int 3, .int 4]]] [.expr (.bm .append (.var 4) [.bf .tuple [.lc (.name 6) [6] .rng1 [.call 87 [.var 0, .lst [.int 0, .int 0, .int 1, .int 1, .int 2, .int 3]]] [] (.tup [.call 87 [.var 0, .lst [.str 0, .str 1]], .call 132 [.var 0, .var 1]])]])], .expr (.bm .append (.var 2) [.tup [.call 87 [.var 0, .lst [.str 4, .str 14]], .bf .tuple [.var 4]]])]) (List.range c)
    (fun k mk ρ xs s X hi hl => by
      obtain ⟨r3, r4, r5, rfl⟩ := hi
      obtain ⟨s1, c, hc, e1⟩ := menu_int B (n := n) (ns := ns) (s := s) (G := A ++ .lst (xs.map eDecl) :: (X ++ [.lst []])) [1, 2, 2, 3, 4] (by simp) (by simp)
      have hc3 : 1 ≤ c ∧ c ≤ 4 := by simp at hc; omega
      obtain ⟨s2, X2, q5, shs, e2, l2, w2⟩ := shapes_loop B (n := n) (m := m) (c := c) (ns := ns) (s := s1) (A := A ++ .lst (xs.map eDecl) :: X) (ρ2 := some (.ref (A.length + 2))) (ρ3 := some (.int k)) (q5 := r5) h0 h1 hc3.2 [.lst [.int 1, .int 2, .int 2, .int 3, .int 4]]
      obtain ⟨s3, z, e3⟩ := menu_two B (n := n) (a := 4) (b := 14) (s := s2) (G := (A ++ .lst (xs.map eDecl) :: X) ++ .lst (shs.map eSlots) :: X2) (ns := ns)
      have src : ∀ L, srcR .rng1 L [.int (c : Int)] = _ := fun L => srcR_rng (by omega)
      have ml : xs.length < most := by unfold most; omega
      refine ⟨[some (.ref 1), some (.int (m : Int)), some (.ref (A.length + 2)), some (.int k), some (.ref (A.length + (X.length + 1) + 2)), q5, none], s3, X ++ .lst (shs.map eSlots) :: (X2 ++ [.lst [.str 4, .str 14]]), (z, shs), ?_, ⟨by simp only; omega, by simp only; omega, w2⟩, ⟨_, _, _, rfl⟩⟩
      simp at e1 e2 e3
      simp [turnF_def, bmOk, bmR, e1, src, e2, e3, at_more, ml, eDecl])
    [some (.ref 1), some (.int (m : Int)), some (.ref (A.length + 2)), none, none, none, none] [] s [] ⟨_, _, _, rfl⟩ (by simp; omega) (fun x m => by simp at m)
  subst i
  exact ⟨s', X', _, ys, by simpa using e, rfl, by simpa using l, q⟩
theorem declared_ok {n : Nat} {s : Int × Int × Nat} {G : LH} : ∃ s' G', ∃ ds : List Decl, run cfg (n + 3) 150 [.ref 1] (HB (ns.map D.int) s G) = .ok (eDecls ds) (HB (ns.map D.int) s' (G ++ G')) ∧ 1 ≤ ds.length ∧ ds.length ≤ 5 ∧ ∀ d ∈ ds, declD ds.length d := by
  obtain ⟨s1, c, hc, e1⟩ := menu_int B (n := n) (ns := ns) (s := s) (G := G) [1, 2, 2, 3, 5] (by simp) (by simp)
  have hc3 : 1 ≤ c ∧ c ≤ 5 := by simp at hc; omega
  obtain ⟨s2, X2, ρ', ds, e2, l2, w2, q2⟩ := decls_loop B (n := n) (m := c) (c := c) (ns := ns) (s := s1) (A := G ++ [.lst [.int 1, .int 2, .int 2, .int 3, .int 5]]) (by omega) (by omega) (by omega)
  have src : ∀ L, srcR .rng1 L [.int (c : Int)] = _ := fun L => srcR_rng (by omega)
  refine ⟨s2, .lst [.int 1, .int 2, .int 2, .int 3, .int 5] :: .lst (ds.map eDecl) :: X2, ds, ?_, by omega, by omega, by rw [w2]; exact q2⟩
  rw [run_succ, runDef_of B.d150 rfl]
  simp at e1 e2 l2
  simp [Lib._law_declared, e1, src, e2, l2, eDecls]
end
end Ap

end
section
set_option linter.all false
set_option maxRecDepth 100000
set_option maxHeartbeats 1000000
/-! The drawn program: what is asked of it. -/
namespace Ap
open Ev
section
variable {P Q : Prog}
theorem makes_head (hd : Q.decls = P.decls) (t : Nat) : Q.makes t = P.makes t := by unfold Prog.makes; rw [hd]
theorem shapes_head (hd : Q.decls = P.decls) (t : Nat) : Q.shapes t = P.shapes t := by unfold Prog.shapes; rw [hd]
theorem shape_head (hd : Q.decls = P.decls) (t h : Nat) : Q.shape t h = P.shape t h := by unfold Prog.shape; rw [shapes_head hd]
mutual
theorem okT_head (hd : Q.decls = P.decls) (hp : ∀ j, Q.params j = P.params j) (hl : Q.defs.length = P.defs.length) : ∀ (x : T) (s : Slot) (ctx : List Slot), okT P ctx s x → okT Q ctx s x
  | .var k, s, ctx, h => by simpa only [okT] using h
  | .bind x, s, ctx, h => by
    simp only [okT] at h ⊢
    exact okS_head hd hp hl x _ h
  | .make k xs, s, ctx, h => by
    simp only [okT] at h ⊢
    rw [makes_head hd, shapes_head hd, shape_head hd]
    exact ⟨h.1, h.2.1, okTs_head hd hp hl xs _ _ h.2.2⟩
  | .mtch ss, s, ctx, h => by
    simp only [okT] at h ⊢
    rw [makes_head hd, shapes_head hd]
    exact ⟨h.1, okBs_head hd hp hl ss _ _ h.2⟩
  | .cut _ _ _, s, ctx, h => by simp [okT] at h
  | .call _ _, s, ctx, h => by simp [okT] at h
  | .stop _, s, ctx, h => by simp [okT] at h
theorem okS_head (hd : Q.decls = P.decls) (hp : ∀ j, Q.params j = P.params j) (hl : Q.defs.length = P.defs.length) : ∀ (x : T) (ctx : List Slot), okS P ctx x → okS Q ctx x
  | .cut t p c, ctx, h => by
    simp only [okS] at h ⊢
    rw [hd]
    exact ⟨h.1, okT_head hd hp hl p _ _ h.2.1, okT_head hd hp hl c _ _ h.2.2⟩
  | .call j xs, ctx, h => by
    simp only [okS] at h ⊢
    rw [hl, hp]
    exact ⟨h.1, okTs_head hd hp hl xs _ _ h.2⟩
  | .stop k, ctx, h => by simpa only [okS] using h
  | .var _, ctx, h => by simp [okS] at h
  | .bind _, ctx, h => by simp [okS] at h
  | .make _ _, ctx, h => by simp [okS] at h
  | .mtch _, ctx, h => by simp [okS] at h
theorem okTs_head (hd : Q.decls = P.decls) (hp : ∀ j, Q.params j = P.params j) (hl : Q.defs.length = P.defs.length) : ∀ (xs : List T) (sl : List Slot) (ctx : List Slot), okTs P ctx sl xs → okTs Q ctx sl xs
  | [], sl, ctx, h => by simpa only [okTs] using h
  | x :: xs, sl, ctx, h => by
    simp only [okTs] at h ⊢
    obtain ⟨s, r, rfl, h1, h2⟩ := h
    exact ⟨s, r, rfl, okT_head hd hp hl x _ _ h1, okTs_head hd hp hl xs _ _ h2⟩
theorem okBs_head (hd : Q.decls = P.decls) (hp : ∀ j, Q.params j = P.params j) (hl : Q.defs.length = P.defs.length) : ∀ (xs : List T) (sh : List (List Slot)) (ctx : List Slot), okBs P ctx sh xs → okBs Q ctx sh xs
  | [], sl, ctx, h => by simpa only [okBs] using h
  | x :: xs, sl, ctx, h => by
    simp only [okBs] at h ⊢
    obtain ⟨s, r, rfl, h1, h2⟩ := h
    exact ⟨s, r, rfl, okS_head hd hp hl x _ h1, okBs_head hd hp hl xs _ _ h2⟩
end
end
/-- a program's bounds make it well formed -/
theorem wf_of {P : Prog} (hd : ∀ d ∈ P.decls, declD P.decls.length d) (h2 : 1 ≤ P.defs.length) (hp : ∀ q ∈ P.defs, q.1.length ≤ 3 ∧ ∀ s ∈ q.1, s.2 < P.decls.length) (hb : ∀ q ∈ P.defs, okS P q.1 q.2) (h0 : P.params 0 = []) : PWf P where
  shp := fun t sh m s ms => by
    unfold Prog.shapes at m
    cases hg : P.decls[t]? with
    | none => rw [hg] at m; simp at m
    | some d => rw [hg] at m; exact ((hd d (List.mem_of_getElem? hg)).2.2 sh m).2 s ms
  par := fun j s ms => by
    unfold Prog.params at ms
    cases hg : P.defs[j]? with
    | none => rw [hg] at ms; simp at ms
    | some d => rw [hg] at ms; exact (hp d (List.mem_of_getElem? hg)).2 s ms
  bod := fun j hj => by
    have hg : P.defs[j]? = some P.defs[j] := List.getElem?_eq_getElem hj
    unfold Prog.params Prog.body
    rw [hg]
    exact hb _ (List.getElem_mem hj)
  shl := fun t h => by
    unfold Prog.shape
    rw [List.getD_eq_getElem?_getD]
    cases hg : (P.shapes t)[h]? with
    | none => simp
    | some sh =>
      have m := List.mem_of_getElem? hg
      unfold Prog.shapes at m
      cases hg2 : P.decls[t]? with
      | none => rw [hg2] at m; simp at m
      | some d => rw [hg2] at m; exact ((hd d (List.mem_of_getElem? hg2)).2.2 sh m).1
  pal := fun j => by
    unfold Prog.params
    cases hg : P.defs[j]? with
    | none => simp
    | some d => exact (hp d (List.mem_of_getElem? hg)).1
  shn := fun t => by
    unfold Prog.shapes
    cases hg : P.decls[t]? with
    | none => simp
    | some d => exact (hd d (List.mem_of_getElem? hg)).2.1
  one := h2
  nop := h0
/-- a program's bounds make it good -/
theorem good_of {P : Prog} (h1 : 1 ≤ P.decls.length ∧ P.decls.length ≤ 5) (hd : ∀ d ∈ P.decls, declD P.decls.length d) (h2 : 1 ≤ P.defs.length ∧ P.defs.length ≤ 6) (hp : ∀ q ∈ P.defs, q.1.length ≤ 3 ∧ ∀ s ∈ q.1, s.2 < P.decls.length) (hb : ∀ q ∈ P.defs, okS P q.1 q.2) (h0 : P.params 0 = []) (z1 : szs (bodies P) ≤ 400) (z2 : tds (bodies P) ≤ 30) : Good P where
  W := wf_of hd h2.1 hp hb h0
  F := { dec := h1, sha := fun d m => ⟨(hd d m).1, (hd d m).2.1, fun sh ms => (hd d m).2.2 sh ms⟩, dfs := h2, hea := fun d m => hp d m }
  hb := hb
  h1 := z1
  h2 := z2
theorem hd_of {P : Prog} (h1 : 1 ≤ P.decls.length ∧ P.decls.length ≤ 5) (hd : ∀ d ∈ P.decls, declD P.decls.length d) (h2 : 1 ≤ P.defs.length ∧ P.defs.length ≤ 6) (hp : ∀ q ∈ P.defs, q.1.length ≤ 3 ∧ ∀ s ∈ q.1, s.2 < P.decls.length) : Hd P where
  shp := fun t sh m => by
    unfold Prog.shapes at m
    cases hg : P.decls[t]? with
    | none => rw [hg] at m; simp at m
    | some d => rw [hg] at m; exact (hd d (List.mem_of_getElem? hg)).2.2 sh m
  shn := fun t ht => by
    have hg : P.decls[t]? = some P.decls[t] := List.getElem?_eq_getElem ht
    unfold Prog.shapes
    rw [hg]
    have q := hd P.decls[t] (List.getElem_mem ht)
    exact ⟨q.1, q.2.1⟩
  par := fun j => by
    unfold Prog.params
    cases hg : P.defs[j]? with
    | none => simp
    | some d => exact hp d (List.mem_of_getElem? hg)
  dec := h1
  dfs := h2
/-- a list, walked by its places, that makes one thing of each -/
theorem loop_mapL {α : Type} {step : D → List D → LH → R (Step (List D) Unit)} {toD g : α → D} {r : Nat} {xs : List α} : ∀ (ks : List α) (i : Nat), xs.drop i = ks → (∀ k ∈ ks, ∀ (acc : List D) (L : LH), acc.length ≤ 1000 → ∃ G, step (toD k) acc L = .ok (.more (acc ++ [g k])) (L ++ G)) → ∀ (acc : List D) (L : LH), L[r]? = some (.lst (xs.map toD)) → acc.length + ks.length ≤ 1000 →
    ∃ G, loopL step r (ks.length + 1) i acc L = .ok (.more (acc ++ ks.map g)) (L ++ G)
  | [], i, hd, h, acc, L, hr, hl => ⟨[], by
    have : (xs.map toD)[i]? = none := List.getElem?_eq_none (by rw [List.length_map]; exact List.drop_eq_nil_iff.mp hd)
    simp only [loopL, hr, this]
    simp⟩
  | k :: ks, i, hd, h, acc, L, hr, hl => by
    obtain ⟨g1, g2⟩ := drop_cons hd
    have g3 : (xs.map toD)[i]? = some (toD k) := by rw [List.getElem?_map, g1]; rfl
    obtain ⟨G1, e1⟩ := h k List.mem_cons_self acc L (by simp at hl; omega)
    obtain ⟨G2, e2⟩ := loop_mapL ks (i + 1) g2 (fun k m => h k (List.mem_cons_of_mem _ m)) (acc ++ [g k]) (L ++ G1) (by rw [List.getElem?_append_left (List.getElem?_eq_some_iff.mp hr).1]; exact hr) (by simp at hl ⊢; omega)
    refine ⟨G1 ++ G2, ?_⟩
    rw [List.length_cons, loopL, hr]
    simp only
    rw [g3]
    simp only [e1, bind_ok, e2]
    simp
section
variable {cfg : Cfg} (B : Base cfg) {P : Prog} {ns : List Int}
include B
theorem fits_ok {n : Nat} {L : LH} (hw : ∀ q ∈ P.defs, Wid q.2 ∧ td q.2 ≤ n) (h0 : P.defs ≠ []) (hl : P.defs.length ≤ 6) : ∃ G, run cfg (n + 1) 164 [eProg P] L = .ok (.bl (decide (szs (bodies P) ≤ 400) && decide (tds (bodies P) ≤ 30))) (L ++ G) := by
  rw [run_succ, runDef_of B.d164 rfl]
  obtain ⟨G1, e1⟩ := loop_map (step := turnC cfg (run cfg n) (calls cfg n).2 (.tup [.name 2, .name 3]) [2, 3] [] (.var 3) [some (eProg P), none, none, none]) (toD := eDef) (g := fun q => enc q.2) (ks := P.defs) (fun q m acc L ha => by
    have ha' : acc.length < most := by unfold most; omega
    exact ⟨[], by simp [turnC_def, eDef, ha']⟩) [] L (by simp; omega)
  have bl : (bodies P).length ≤ 6 := by unfold bodies; simpa using hl
  have hb : ∀ x ∈ bodies P, Wid x ∧ td x ≤ n := fun x m => by
    obtain ⟨q, mq, rfl⟩ := List.mem_map.mp m
    exact hw q mq
  have bm : P.defs.map (fun q => enc q.2) = (bodies P).map enc := by unfold bodies; simp
  rw [bm] at e1
  obtain ⟨G2, e2⟩ := loop_mapL (r := (L ++ G1).length) (xs := bodies P) (step := turnC cfg (run cfg n) (calls cfg n).2 (.name 3) [3] [] (.call 95 [.var 3]) [some (eProg P), some (.ref (L ++ G1).length), none, none]) (toD := enc) (g := fun x => .int (sz x)) (bodies P) 0 rfl (fun x m acc L ha => by
    obtain ⟨h1, h2⟩ := hb x m
    obtain ⟨G, e⟩ := size_ok B n x L h1 h2
    have ha' : acc.length < most := by unfold most; omega
    exact ⟨G, by simp [turnC_def, e, ha']⟩) [] ((L ++ G1) ++ [.lst ((bodies P).map enc)]) (by simp only [List.getElem?_concat_length]) (by simp; omega)
  obtain ⟨G3, e3⟩ := loop_mapL (r := (L ++ G1).length) (xs := bodies P) (step := turnC cfg (run cfg n) (calls cfg n).2 (.name 3) [3] [] (.call 96 [.var 3]) [some (eProg P), some (.ref (L ++ G1).length), none, none]) (toD := enc) (g := fun x => .int (td x)) (bodies P) 0 rfl (fun x m acc L ha => by
    obtain ⟨h1, h2⟩ := hb x m
    obtain ⟨G, e⟩ := deep_ok B n x L h1 h2
    have ha' : acc.length < most := by unfold most; omega
    exact ⟨G, by simp [turnC_def, e, ha']⟩) [] (((L ++ G1) ++ [.lst ((bodies P).map enc)]) ++ G2 ++ [.lst ((bodies P).map fun x => .int (sz x))]) (by simp) (by simp; omega)
  have s1 := intsOf_map (fun x : T => ((sz x : Nat) : Int)) (bodies P)
  have s2 := sum_sz (bodies P)
  have s3 := intsOf_map (fun x : T => ((td x : Nat) : Int)) (bodies P)
  have gl : ∀ X, (L ++ (G1 ++ LO.lst ((bodies P).map enc) :: X))[L.length + G1.length]? = some (.lst ((bodies P).map enc)) := fun X => by
    rw [List.getElem?_append_right (by omega)]
    simp
  obtain ⟨b0, br, hbr⟩ : ∃ b0 br, bodies P = b0 :: br := by
    cases hq : bodies P with
    | nil => unfold bodies at hq; simp at hq; exact absurd hq h0
    | cons a b => exact ⟨a, b, rfl⟩
  have s4 := maxI_td br (td b0)
  have s5 : max (td b0) (tds br) = tds (bodies P) := by rw [hbr]; rfl
  rw [s5] at s4
  have s6 : intsOf ((bodies P).map fun x => D.int (td x)) = some ((td b0 : Int) :: br.map fun x => ((td x : Nat) : Int)) := by rw [s3, hbr]; rfl
  have bl2 : (bodies P).length + 1 = (bodies P).length + 1 := rfl
  simp at e1 e2 e3
  have i1 : ∀ L, idxR L (eProg P) (.int 1) = some (eDefs P.defs) := fun L => rfl
  have i2 : ∀ L, srcR .seq L [eDefs P.defs] = some (.items (P.defs.map eDef)) := fun L => rfl
  have g1 : ∀ X, (L ++ (G1 ++ LO.lst ((bodies P).map enc) :: X))[L.length + G1.length]? = some (.lst ((bodies P).map enc)) := gl
  have g2 : ∀ X, (L ++ (G1 ++ LO.lst ((bodies P).map enc) :: (G2 ++ LO.lst ((bodies P).map fun x => D.int (sz x)) :: X)))[L.length + (G1.length + (G2.length + 1))]? = some (.lst ((bodies P).map fun x => .int (sz x))) := fun X => by
    rw [List.getElem?_append_right (by omega), List.getElem?_append_right (by omega)]
    simp
  have g3 : ∀ X, (L ++ (G1 ++ LO.lst ((bodies P).map enc) :: (G2 ++ LO.lst ((bodies P).map fun x => D.int (sz x)) :: (G3 ++ LO.lst ((bodies P).map fun x => D.int (td x)) :: X))))[L.length + (G1.length + (G2.length + (G3.length + 1) + 1))]? = some (.lst ((bodies P).map fun x => .int (td x))) := fun X => by
    rw [List.getElem?_append_right (by omega), List.getElem?_append_right (by omega)]
    have : L.length + (G1.length + (G2.length + (G3.length + 1) + 1)) - L.length - G1.length = (G2.length + (G3.length + 1)) + 1 := by omega
    rw [this, List.getElem?_cons_succ, List.getElem?_append_right (by omega)]
    simp
  by_cases hsz : szs (bodies P) ≤ 400
  · have hsz' : ((szs (bodies P) : Nat) : Int) ≤ 400 := by omega
    refine ⟨G1 ++ .lst ((bodies P).map enc) :: (G2 ++ .lst ((bodies P).map fun x => .int (sz x)) :: (G3 ++ [.lst ((bodies P).map fun x => .int (td x))])), ?_⟩
    have de : decide (((tds (bodies P) : Nat) : Int) ≤ 30) = decide (tds (bodies P) ≤ 30) := by
      by_cases h : tds (bodies P) ≤ 30
      · rw [decide_eq_true h, decide_eq_true (by omega)]
      · rw [decide_eq_false h, decide_eq_false (by omega)]
    simp [Lib._law_fits2, i1, i2, e1, loopV, g1, e2, g2, s1, s2, hsz', hsz, e3, g3, s6, s4, de]
  · have hsz' : ¬ ((szs (bodies P) : Nat) : Int) ≤ 400 := by omega
    refine ⟨G1 ++ .lst ((bodies P).map enc) :: (G2 ++ [.lst ((bodies P).map fun x => .int (sz x))]), ?_⟩
    simp [Lib._law_fits2, i1, i2, e1, loopV, g1, e2, g2, s1, s2, hsz', hsz]
end
end Ap

end
section
set_option linter.all false
set_option maxRecDepth 100000
set_option maxHeartbeats 1000000
/-! The drawing of a program. -/
namespace Ap
open Ev
theorem gen_loopL {α β : Type} {toD : α → D} {rD : β → D} {step : D → List D → LH → R (Step (List D) Unit)} {Q : α → β → Prop} {cells : List D} {A : LH} {al : List α} : ∀ (ks : List α) (i : Nat), al.drop i = ks →
    (∀ k ∈ ks, ∀ (acc : List D) (s : Int × Int × Nat) (X : LH), acc.length ≤ 1000 → ∃ s' X' x, step (toD k) acc (HB cells s (A ++ .lst (al.map toD) :: X)) = .ok (.more (acc ++ [rD x])) (HB cells s' (A ++ .lst (al.map toD) :: X')) ∧ Q k x) →
    ∀ (acc : List D) (s : Int × Int × Nat) (X : LH), acc.length + ks.length ≤ 1000 → ∃ s' X' xs, loopL step (A.length + 2) (ks.length + 1) i acc (HB cells s (A ++ .lst (al.map toD) :: X)) = .ok (.more (acc ++ xs.map rD)) (HB cells s' (A ++ .lst (al.map toD) :: X')) ∧ all2 Q ks xs
  | [], i, hd, _, acc, s, X, _ => ⟨s, X, [], by
    have : (al.map toD)[i]? = none := List.getElem?_eq_none (by rw [List.length_map]; exact List.drop_eq_nil_iff.mp hd)
    simp only [loopL, HB_get, at_end, this]
    simp, trivial⟩
  | k :: ks, i, hd, h, acc, s, X, hl => by
    obtain ⟨g1, g2⟩ := drop_cons hd
    have g3 : (al.map toD)[i]? = some (toD k) := by rw [List.getElem?_map, g1]; rfl
    simp at hl
    obtain ⟨s1, X1, x, e1, q1⟩ := h k List.mem_cons_self acc s X (by omega)
    obtain ⟨s2, X2, xs, e2, q2⟩ := gen_loopL ks (i + 1) g2 (fun k m => h k (List.mem_cons_of_mem _ m)) (acc ++ [rD x]) s1 X1 (by simp; omega)
    refine ⟨s2, X2, x :: xs, ?_, q1, q2⟩
    rw [List.length_cons, loopL, HB_get, at_end]
    simp only
    rw [g3]
    simp only [e1, bind_ok, e2]
    simp
theorem all2_fst {α β : Type} {Q : α → α × β → Prop} (hq : ∀ a x, Q a x → x.1 = a) : ∀ {ks : List α} {xs : List (α × β)}, all2 Q ks xs → xs.map (fun x => x.1) = ks ∧ ∀ x ∈ xs, ∃ k ∈ ks, Q k x
  | [], [], _ => ⟨rfl, fun x m => by simp at m⟩
  | k :: ks, x :: xs, h => by
    obtain ⟨h1, h2⟩ := h
    obtain ⟨i1, i2⟩ := all2_fst hq h2
    refine ⟨by simp [hq k x h1, i1], fun y m => ?_⟩
    rcases List.mem_cons.mp m with m | m
    · subst m; exact ⟨k, List.mem_cons_self, h1⟩
    · obtain ⟨k', m', q'⟩ := i2 y m
      exact ⟨k', List.mem_cons_of_mem _ m', q'⟩
  | [], _ :: _, h => h.elim
  | _ :: _, [], h => h.elim
theorem params_map {P : Prog} {j : Nat} : P.params j = ((P.defs.map fun q => q.1)[j]?).getD [] := by
  unfold Prog.params
  rw [List.getElem?_map]
  cases P.defs[j]? <;> rfl
section
variable {cfg : Cfg} (B : Base cfg) {P : Prog} {ns : List Int}
include B
/-- a row of parameters -/
theorem param_row {n c : Nat} {ds : List Decl} {s : Int × Int × Nat} {G : LH} {ρ2 ρ3 ρ4 ρ5 ρ6 ρ7 : Option D} (h0 : 0 < ds.length) (h1 : ds.length ≤ 5) (hc : c ≤ 3) : ∃ s' G', ∃ sl : List Slot, loopI (turnC cfg (run cfg (n + 2)) (calls cfg (n + 2)).2 (.name 8) [8] [] (.tup [.call 87 [.var 0, .lst [.str 0, .str 1]], .call 132 [.var 0, .bf .len [.var 1]]]) [some (.ref 1), some (eDecls ds), ρ2, ρ3, ρ4, ρ5, ρ6, ρ7, none]) ((List.range c).map fun (i : Nat) => D.int (i : Int)) [] (HB (ns.map D.int) s G) = .ok (.more (sl.map eSlot)) (HB (ns.map D.int) s' (G ++ G')) ∧ sl.length = c ∧ ∀ x ∈ sl, x.2 < ds.length := by
  obtain ⟨s', G', xs, e, q⟩ := gen_loop (toD := fun (i : Nat) => D.int (i : Int)) (rD := eSlot) (cells := ns.map D.int) (Q := fun _ x => x.2 < ds.length) (step := turnC cfg (run cfg (n + 2)) (calls cfg (n + 2)).2 (.name 8) [8] [] (.tup [.call 87 [.var 0, .lst [.str 0, .str 1]], .call 132 [.var 0, .bf .len [.var 1]]]) [some (.ref 1), some (eDecls ds), ρ2, ρ3, ρ4, ρ5, ρ6, ρ7, none]) (List.range c)
    (fun k mk acc s G ha => by
      obtain ⟨s1, z, e1⟩ := menu_two B (n := n) (a := 0) (b := 1) (s := s) (G := G) (ns := ns)
      obtain ⟨s2, v, hv, e2⟩ := take_ok B (n := n + 1) (m := (ds.length : Int)) (ns := ns) (s := s1) (G := G ++ [.lst [.str 0, .str 1]]) (by omega) (by omega)
      have ha' : acc.length < most := by unfold most; omega
      exact ⟨s2, [.lst [.str 0, .str 1]], (z, v), by simp [turnC_def, eDecls, e1, e2, ha', eSlot, eSide], by simpa using hv⟩) [] s G (by simp; omega)
  obtain ⟨q1, q2⟩ := all2_q q
  exact ⟨s', G', xs, by simpa using e, by simpa using q2, q1⟩
/-- the loop of the parameters -/
theorem params_loop {n c : Nat} {ds : List Decl} {s : Int × Int × Nat} {A X : LH} (h0 : 0 < ds.length) (h1 : ds.length ≤ 5) (hc : c ≤ 5) : ∃ s' X' r3, ∃ sls : List (List Slot), loopI (turnF cfg (run cfg (n + 2)) (calls cfg (n + 2)).2 (.name 3) [.expr (.bm .append (.var 2) [.bf .tuple [.lc (.name 8) [8] .rng1 [.call 132 [.var 0, .int 4]] [] (.tup [.call 87 [.var 0, .lst [.str 0, .str 1]], .call 132 [.var 0, .bf .len [.var 1]]])]])])
    ((List.range c).map fun (i : Nat) => D.int (i : Int)) [some (.ref 1), some (eDecls ds), some (.ref (A.length + 2)), none, none, none, none, none, none] (HB (ns.map D.int) s (A ++ .lst [.tup []] :: X)) = .ok (.more [some (.ref 1), some (eDecls ds), some (.ref (A.length + 2)), r3, none, none, none, none, none]) (HB (ns.map D.int) s' (A ++ .lst (([] :: sls).map eSlots) :: X')) ∧ sls.length = c ∧ ∀ sh ∈ sls, sh.length ≤ 3 ∧ ∀ s ∈ sh, s.2 < ds.length := by
  obtain ⟨ρ', s', X', ys, e, l, ⟨zs, hz⟩, q, ⟨r3, i⟩⟩ := app_loop (toD := fun (i : Nat) => D.int (i : Int)) (rD := eSlots) (cells := ns.map D.int) (A := A) (Q := fun sh => sh.length ≤ 3 ∧ ∀ s ∈ sh, s.2 < ds.length) (Inv := fun ρ => ∃ r3, ρ = [some (.ref 1), some (eDecls ds), some (.ref (A.length + 2)), r3, none, none, none, none, none])
    (step := turnF cfg (run cfg (n + 2)) (calls cfg (n + 2)).2 (.name 3) [.expr (.bm .append (.var 2) [.bf .tuple [.lc (.name 8) [8] .rng1 [.call 132 [.var 0, .int 4]] [] (.tup [.call 87 [.var 0, .lst [.str 0, .str 1]], .call 132 [.var 0, .bf .len [.var 1]]])]])]) (List.range c)
    (fun k mk ρ xs s X hi hl => by
      obtain ⟨r3, rfl⟩ := hi
      obtain ⟨s1, c, hc, e1⟩ := take_ok B (n := n + 1) (m := 4) (ns := ns) (s := s) (G := A ++ .lst (xs.map eSlots) :: X) (by omega) (by omega)
      have hc3 : c ≤ 3 := by omega
      obtain ⟨s2, G2, sl, e2, l2, q2⟩ := param_row B (n := n) (ds := ds) (c := c) (ns := ns) (s := s1) (G := A ++ .lst (xs.map eSlots) :: X) (ρ2 := some (.ref (A.length + 2))) (ρ3 := some (.int k)) (ρ4 := none) (ρ5 := none) (ρ6 := none) (ρ7 := none) h0 h1 hc3
      have src : ∀ L, srcR .rng1 L [.int (c : Int)] = _ := fun L => srcR_rng (by omega)
      have ml : xs.length < most := by unfold most; omega
      refine ⟨[some (.ref 1), some (eDecls ds), some (.ref (A.length + 2)), some (.int k), none, none, none, none, none], s2, X ++ (G2 ++ [.lst (sl.map eSlot)]), sl, ?_, ⟨by omega, q2⟩, ⟨_, rfl⟩⟩
      simp at e1 e2
      simp [turnF_def, bmOk, bmR, e1, src, e2, ml, eSlots])
    [some (.ref 1), some (eDecls ds), some (.ref (A.length + 2)), none, none, none, none, none, none] [[]] s X ⟨_, rfl⟩ (by simp; omega) (fun x m => by simp at m; subst m; simp)
  subst i
  subst hz
  refine ⟨s', X', r3, zs, ?_, by simp at l; omega, fun sh m => q sh (by simp [m])⟩
  simp [eSlots] at e
  simp [eSlots]
  exact e
theorem program_drawn {n : Nat} {s : Int × Int × Nat} {G : LH} (hn : 40 ≤ n) : ∃ s' G', ∃ P : Prog, run cfg (n + 1) 153 [.ref 1] (HB (ns.map D.int) s G) = .ok (eProg P) (HB (ns.map D.int) s' (G ++ G')) ∧ Good P := by
  obtain ⟨m, rfl⟩ : ∃ m, n = m + 3 := ⟨n - 3, by omega⟩
  obtain ⟨s1, G1, ds, e1, d1, d2, dd⟩ := declared_ok B (n := m) (ns := ns) (s := s) (G := G)
  obtain ⟨s2, c, hc, e2⟩ := menu_int B (n := m + 1) (ns := ns) (s := s1) (G := G ++ G1 ++ [.lst [.tup []]]) [0, 1, 2, 2, 3, 5] (by simp) (by simp)
  have hc5 : c ≤ 5 := by simp at hc; omega
  obtain ⟨s3, X3, r3, sls, e3, l3, q3⟩ := params_loop B (n := m + 1) (c := c) (ds := ds) (ns := ns) (s := s2) (A := G ++ G1) (X := [.lst [.int 0, .int 1, .int 2, .int 2, .int 3, .int 5]]) (by omega) d2 hc5
  obtain ⟨s4, b, hb, e4⟩ := menu_int B (n := m + 1) (ns := ns) (s := s3) (G := G ++ G1 ++ .lst (([] :: sls).map eSlots) :: X3) [6, 10, 16, 24] (by simp) (by simp)
  have hb24 : b ≤ 24 := by simp at hb; omega
  obtain ⟨P0, hP0⟩ : ∃ P0 : Prog, P0 = ⟨ds, ([] :: sls).map fun sl => (sl, .stop 0)⟩ := ⟨_, rfl⟩
  have p0 : eHead P0 = .tup [eDecls ds, .tup (([] :: sls).map eSlots)] := by
    rw [hP0]
    simp [eHead]
  have q3' : ∀ sh ∈ [] :: sls, sh.length ≤ 3 ∧ ∀ s ∈ sh, s.2 < ds.length := fun sh ms => by
    rcases List.mem_cons.mp ms with ms | ms
    · subst ms; simp
    · exact q3 sh ms
  have H : Hd P0 := by
    refine hd_of ?_ ?_ ?_ ?_
    · rw [hP0]; exact ⟨d1, d2⟩
    · rw [hP0]; exact dd
    · rw [hP0]; simp; omega
    · rw [hP0]
      intro q mq
      obtain ⟨sl, ms, rfl⟩ := List.mem_map.mp mq
      exact q3' sl ms
  have gs := (gen_all B (ns := ns) H (m + 3)).1
  obtain ⟨s5, X5, qs, e5, q5⟩ := gen_loopL (toD := eSlots) (rD := eDef) (cells := ns.map D.int) (A := G ++ G1) (al := [] :: sls) (Q := fun sl q => q.1 = sl ∧ okS P0 sl q.2 ∧ td q.2 ≤ b + 1)
    (step := turnC cfg (run cfg (m + 3)) (calls cfg (m + 3)).2 (.name 7) [7] [] (.tup [.var 7, .call 151 [.var 0, .var 4, .var 7, .var 5]]) [some (.ref 1), some (eDecls ds), some (.ref ((G ++ G1).length + 2)), r3, some (eHead P0), some (.int (b : Nat)), none, none, none]) ([] :: sls) 0 rfl
    (fun sl ms acc s X ha => by
      obtain ⟨w1, w2⟩ := q3' sl ms
      obtain ⟨s', G', x, e, o, t⟩ := gs sl (b : Int) s ((G ++ G1) ++ .lst (([] :: sls).map eSlots) :: X) (by rw [hP0]; exact w2) (by omega) (by omega)
      have ha' : acc.length < most := by unfold most; omega
      refine ⟨s', X ++ G', (sl, x), ?_, rfl, o, by simp only; omega⟩
      rw [p0] at e
      simp [eSlots] at e
      simp [turnC_def, p0, eSlots, e, ha', eDef]) [] s4 (X3 ++ [.lst [.int 6, .int 10, .int 16, .int 24]]) (by simp; omega)
  obtain ⟨f1, f2⟩ := all2_fst (fun a x h => h.1) q5
  obtain ⟨P, hP⟩ : ∃ P : Prog, P = ⟨ds, qs⟩ := ⟨_, rfl⟩
  have pd : P.decls = P0.decls := by rw [hP, hP0]
  have pm : P.defs.map (fun q => q.1) = P0.defs.map (fun q => q.1) := by
    rw [hP, hP0]
    simp only
    rw [f1, List.map_map]
    exact (List.map_id ([] :: sls)).symm
  have pp : ∀ j, P.params j = P0.params j := fun j => by rw [params_map, params_map, pm]
  have pl : P.defs.length = P0.defs.length := by have := congrArg List.length pm; simpa using this
  have ql : qs.length = sls.length + 1 := by have := congrArg List.length f1; simpa using this
  have pb : ∀ q ∈ P.defs, okS P q.1 q.2 ∧ td q.2 ≤ b + 1 ∧ q.1.length ≤ 3 ∧ ∀ s ∈ q.1, s.2 < ds.length := fun q mq => by
    rw [hP] at mq
    obtain ⟨k, mk, h1, h2, h3⟩ := f2 q mq
    rw [h1]
    exact ⟨okS_head pd pp pl _ _ h2, h3, q3' k mk⟩
  have p00 : P.params 0 = [] := by rw [params_map, hP]; simp only; rw [f1]; rfl
  have W : PWf P := wf_of (by rw [hP]; exact dd) (by rw [hP]; simp only; omega) (fun q mq => by have := (pb q mq).2.2; rw [hP]; exact this) (fun q mq => (pb q mq).1) p00
  obtain ⟨G6, e6⟩ := fits_ok B (P := P) (n := m + 2) (L := HB (ns.map D.int) s5 ((G ++ G1) ++ .lst (([] :: sls).map eSlots) :: X5 ++ [.lst (qs.map eDef)])) (fun q mq => ⟨okS_wid W _ _ (pb q mq).1, by have := (pb q mq).2.1; omega⟩) (by rw [hP]; intro h; simp only at h; rw [h] at ql; simp at ql) (by rw [hP]; simp only; omega)
  have src : ∀ L, srcR .rng1 L [.int (c : Int)] = _ := fun L => srcR_rng (by omega)
  rw [run_succ, runDef_of B.d153 rfl]
  have pe : eProg P = .tup [eDecls ds, .tup (qs.map eDef)] := by rw [hP]; rfl
  rw [pe] at e6
  rw [p0] at e5
  have dsl : eSlots [] = .tup [] := rfl
  by_cases hf : szs (bodies P) ≤ 400 ∧ tds (bodies P) ≤ 30
  · refine ⟨s5, G1 ++ .lst (([] :: sls).map eSlots) :: (X5 ++ .lst (qs.map eDef) :: G6), P, ?_, good_of (by rw [hP]; exact ⟨d1, d2⟩) (by rw [hP]; exact dd) (by rw [hP]; simp only; omega) (fun q mq => by have := (pb q mq).2.2; rw [hP]; exact this) (fun q mq => (pb q mq).1) p00 hf.1 hf.2⟩
    rw [pe]
    simp [dsl] at e1 e2 e3 e4 e5 e6
    simp [Lib._law_program2, e1, e2, src, e3, e4, loopV, e5, e6, hf, dsl]
  · refine ⟨s5, G1 ++ .lst (([] :: sls).map eSlots) :: (X5 ++ .lst (qs.map eDef) :: G6), ⟨ds, [([], .stop 0)]⟩, ?_, good_of ⟨d1, d2⟩ dd (by simp) (fun q mq => by simp at mq; subst mq; simp) (fun q mq => by simp at mq; subst mq; simp [okS]) rfl (by simp [bodies, szs, sz]) (by simp [bodies, tds, td])⟩
    have hf' : (decide (szs (bodies P) ≤ 400) && decide (tds (bodies P) ≤ 30)) = false := by
      rcases Bool.eq_false_or_eq_true (decide (szs (bodies P) ≤ 400) && decide (tds (bodies P) ≤ 30)) with h | h
      · simp at h; exact absurd h hf
      · exact h
    rw [hf'] at e6
    simp [dsl] at e1 e2 e3 e4 e5 e6
    simp [Lib._law_program2, e1, e2, src, e3, e4, loopV, e5, e6, dsl, eProg, eDefs, eDef, enc]
end
end Ap

end
section
set_option linter.all false
set_option maxRecDepth 100000
set_option maxHeartbeats 1000000
/-! What repr shows of programs and statements. -/
namespace Ap
open Ev
theorem log2_small {n : Nat} (h : n < 1024) : n.log2 < 10 := by
  by_cases h0 : n = 0
  · subst h0; simp
  · exact (Nat.log2_lt h0).mpr h
/-- data of so much depth and length -/
def Shown (d : D) (p l : Nat) : Prop := d.pure = true ∧ d.ri = true ∧ d.dep ≤ p ∧ d.rl ≤ l
def Showns (ds : List D) (p l : Nat) : Prop := D.pures ds = true ∧ D.ris ds = true ∧ D.deps ds ≤ p ∧ D.rls ds ≤ l
theorem Shown.mono {d : D} {p p' l l' : Nat} (h : Shown d p l) (hp : p ≤ p') (hl : l ≤ l') : Shown d p' l' := ⟨h.1, h.2.1, by have := h.2.2.1; omega, by have := h.2.2.2; omega⟩
theorem Showns.mono {d : List D} {p p' l l' : Nat} (h : Showns d p l) (hp : p ≤ p') (hl : l ≤ l') : Showns d p' l' := ⟨h.1, h.2.1, by have := h.2.2.1; omega, by have := h.2.2.2; omega⟩
theorem sz_pos : ∀ x : T, 1 ≤ sz x := by
  intro x
  cases x <;> simp [sz] <;> omega
theorem shown_int {n : Nat} (h : n < 1024) : Shown (.int (n : Int)) 1 14 := by
  have := log2_small h
  exact ⟨rfl, by simp [D.ri]; omega, by simp [D.dep], by simp [D.rl]; omega⟩
theorem shown_str {c : Nat} : Shown (.str c) 1 200 := ⟨rfl, rfl, by simp [D.dep], by simp [D.rl]⟩
theorem showns_nil : Showns [] 0 0 := ⟨rfl, rfl, by simp [D.deps], by simp [D.rls]⟩
theorem showns_cons {d : D} {ds : List D} {p q l m : Nat} (h : Shown d p l) (k : Showns ds q m) : Showns (d :: ds) (max p q) (l + 2 + m) := by
  obtain ⟨h1, h2, h3, h4⟩ := h
  obtain ⟨k1, k2, k3, k4⟩ := k
  refine ⟨by simp [D.pures, h1, k1], by simp [D.ris, h2, k2], by simp only [D.deps]; omega, by simp only [D.rls]; omega⟩
theorem shown_tup {ds : List D} {p l : Nat} (k : Showns ds p l) : Shown (.tup ds) (1 + p) (4 + l) := by
  obtain ⟨k1, k2, k3, k4⟩ := k
  exact ⟨by simp [D.pure, k1], by simp [D.ri, k2], by simp only [D.dep]; omega, by simp only [D.rl]; omega⟩
theorem showns_map {α : Type} {f : α → D} {p l : Nat} : ∀ {xs : List α}, (∀ x ∈ xs, Shown (f x) p l) → Showns (xs.map f) p (xs.length * (l + 2))
  | [], _ => ⟨rfl, rfl, by simp [D.deps], by simp [D.rls]⟩
  | x :: xs, h => by
    have h1 := showns_cons (h x List.mem_cons_self) (showns_map (xs := xs) fun y m => h y (List.mem_cons_of_mem _ m))
    rw [Nat.max_self] at h1
    refine ⟨h1.1, h1.2.1, h1.2.2.1, ?_⟩
    have := h1.2.2.2
    rw [List.length_cons, Nat.succ_mul]
    simp only [List.map_cons] at this ⊢
    omega
theorem repr_of {tab : List PySem.Str} {L : LH} {d : D} {p l : Nat} (h : Shown d p l) (hp : p ≤ 180) (hl : l ≤ 16000000) : bfR tab .repr L [d] = .ok (.txt (d.py tab).shown) L := by
  obtain ⟨h1, h2, h3, h4⟩ := h
  have h5 : decide (d.dep ≤ 180) = true := decide_eq_true (by omega)
  have h6 : decide (d.rl ≤ most) = true := decide_eq_true (by unfold most; omega)
  show (if d.pure && d.ri && decide (d.dep ≤ 180) && decide (d.rl ≤ most) then _ else _) = _
  rw [h1, h2, h5, h6]
  rfl
@[simp] theorem eqR_txt {L : LH} {a b : PySem.Str} : eqR L (.txt a) (.txt b) = some (decide (a = b)) := id rfl
theorem shown_slot {s : Slot} (h : s.2 < 1024) : Shown (eSlot s) 2 222 := by
  have := shown_tup (showns_cons (shown_str (c := if s.1 then 0 else 1)) (showns_cons (shown_int h) showns_nil))
  exact this.mono (by omega) (by omega)
theorem shown_slots {sl : List Slot} (h : ∀ s ∈ sl, s.2 < 1024) (hl : sl.length ≤ 3) : Shown (eSlots sl) 3 700 := by
  have := shown_tup (showns_map (f := eSlot) (xs := sl) fun s m => shown_slot (h s m))
  exact this.mono (by omega) (by omega)
section
variable {P : Prog}
mutual
theorem shown_T (H : Good P) : ∀ (x : T) (s : Slot) (ctx : List Slot), okT P ctx s x → ctx.length + 4 * td x ≤ 1000 → Shown (enc x) (2 * td x) (400 * sz x - 2)
  | .var k, s, ctx, h, hl => by
    simp only [okT] at h
    simp only [td] at hl ⊢
    simp only [sz, enc]
    have hk : k < ctx.length := (List.getElem?_eq_some_iff.mp h).1
    exact (shown_tup (showns_cons (shown_str (c := 20)) (showns_cons (shown_int (n := k) (by omega)) showns_nil))).mono (by omega) (by omega)
  | .bind x, s, ctx, h, hl => by
    simp only [okT] at h
    simp only [td] at hl ⊢
    simp only [sz, enc]
    have i := shown_S H x _ h (by simp; omega)
    exact (shown_tup (showns_cons (shown_str (c := 5)) (showns_cons i showns_nil))).mono (by have := td_pos x; omega) (by omega)
  | .make k xs, s, ctx, h, hl => by
    simp only [okT] at h
    simp only [td] at hl ⊢
    simp only [sz, enc]
    have i := shown_Ts H xs _ ctx h.2.2 (by omega)
    have hk : k < 1024 := by have := H.W.shn s.2; omega
    exact (shown_tup (showns_cons (shown_str (c := 6)) (showns_cons (shown_int (n := k) hk) (showns_cons (shown_tup i) showns_nil)))).mono (by omega) (by omega)
  | .mtch ss, s, ctx, h, hl => by
    simp only [okT] at h
    simp only [td] at hl ⊢
    simp only [sz, enc]
    have i := shown_Bs H ss _ ctx h.2 (fun sh m => by obtain ⟨k, hk⟩ := List.getElem?_of_mem m; have := H.W.shl s.2 k; unfold Prog.shape at this; rw [List.getD_eq_getElem?_getD, hk] at this; exact this) (by omega)
    exact (shown_tup (showns_cons (shown_str (c := 13)) (showns_cons (shown_tup i) showns_nil))).mono (by omega) (by omega)
  | .cut _ _ _, s, ctx, h, _ => by simp [okT] at h
  | .call _ _, s, ctx, h, _ => by simp [okT] at h
  | .stop _, s, ctx, h, _ => by simp [okT] at h
theorem shown_S (H : Good P) : ∀ (x : T) (ctx : List Slot), okS P ctx x → ctx.length + 4 * td x ≤ 1000 → Shown (enc x) (2 * td x) (400 * sz x - 2)
  | .cut t p c, ctx, h, hl => by
    simp only [okS] at h
    simp only [td] at hl ⊢
    simp only [sz, enc]
    have i := shown_T H p _ ctx h.2.1 (by omega)
    have j := shown_T H c _ ctx h.2.2 (by omega)
    have ht : t < 1024 := by have := H.F.dec; omega
    exact (shown_tup (showns_cons (shown_str (c := 7)) (showns_cons (shown_int (n := t) ht) (showns_cons i (showns_cons j showns_nil))))).mono (by have := td_pos p; omega) (by omega)
  | .call j xs, ctx, h, hl => by
    simp only [okS] at h
    simp only [td] at hl ⊢
    simp only [sz, enc]
    have i := shown_Ts H xs _ ctx h.2 (by omega)
    have hj : j < 1024 := by have := H.F.dfs; omega
    exact (shown_tup (showns_cons (shown_str (c := 12)) (showns_cons (shown_int (n := j) hj) (showns_cons (shown_tup i) showns_nil)))).mono (by omega) (by omega)
  | .stop k, ctx, h, hl => by
    simp only [okS] at h
    simp only [td, sz, enc]
    exact (shown_tup (showns_cons (shown_str (c := 18)) (showns_cons (shown_int (n := k) (by omega)) showns_nil))).mono (by omega) (by omega)
  | .var _, ctx, h, _ => by simp [okS] at h
  | .bind _, ctx, h, _ => by simp [okS] at h
  | .make _ _, ctx, h, _ => by simp [okS] at h
  | .mtch _, ctx, h, _ => by simp [okS] at h
theorem shown_Ts (H : Good P) : ∀ (xs : List T) (sl : List Slot) (ctx : List Slot), okTs P ctx sl xs → ctx.length + 4 * tds xs ≤ 1000 → Showns (encs xs) (2 * tds xs) (400 * szs xs)
  | [], sl, ctx, _, _ => by simpa only [encs, tds, szs] using showns_nil
  | x :: xs, sl, ctx, h, hl => by
    simp only [okTs] at h
    obtain ⟨s, r, rfl, h1, h2⟩ := h
    simp only [tds] at hl
    have i := showns_cons (shown_T H x s ctx h1 (by omega)) (shown_Ts H xs r ctx h2 (by omega))
    have z := sz_pos x
    simp only [encs, tds, szs]
    exact i.mono (by omega) (by omega)
theorem shown_Bs (H : Good P) : ∀ (xs : List T) (sh : List (List Slot)) (ctx : List Slot), okBs P ctx sh xs → (∀ s ∈ sh, s.length ≤ 3) → ctx.length + 4 + 4 * tds xs ≤ 1000 → Showns (encs xs) (2 * tds xs) (400 * szs xs)
  | [], sl, ctx, _, _, _ => by simpa only [encs, tds, szs] using showns_nil
  | x :: xs, sl, ctx, h, hs, hl => by
    simp only [okBs] at h
    obtain ⟨s, r, rfl, h1, h2⟩ := h
    simp only [tds] at hl
    have w := hs s List.mem_cons_self
    have i := showns_cons (shown_S H x (ctx ++ s) h1 (by simp; omega)) (shown_Bs H xs r ctx h2 (fun y m => hs y (List.mem_cons_of_mem _ m)) (by omega))
    have z := sz_pos x
    simp only [encs, tds, szs]
    exact i.mono (by omega) (by omega)
end
theorem shown_decl (H : Good P) {d : Decl} (hd : d ∈ P.decls) : Shown (eDecl d) 5 4000 := by
  obtain ⟨h1, h2, h3⟩ := H.F.sha d hd
  have h5 := H.F.dec
  have i := showns_map (f := eSlots) (p := 3) (l := 700) (xs := d.2) fun sl m => shown_slots (fun s ms => by have := (h3 sl m).2 s ms; unfold SlotOk at this; omega) (h3 sl m).1
  exact (shown_tup (showns_cons (shown_str (c := if d.1 then 4 else 14)) (showns_cons (shown_tup i) showns_nil))).mono (by omega) (by omega)
theorem shown_defs : ∀ (l : List (List Slot × T)), (∀ q ∈ l, Shown (eSlots q.1) 3 700 ∧ Shown (enc q.2) 60 (400 * sz q.2 - 2)) → Showns (l.map eDef) 61 (l.length * 1000 + 400 * szs (l.map fun q => q.2))
  | [], _ => ⟨rfl, rfl, by simp [D.deps], by simp [D.rls]⟩
  | q :: l, h => by
    obtain ⟨h1, h2⟩ := h q List.mem_cons_self
    have i := showns_cons (shown_tup (showns_cons h1 (showns_cons h2 showns_nil))) (shown_defs l fun y m => h y (List.mem_cons_of_mem _ m))
    have z := sz_pos q.2
    simp only [List.map_cons, szs, List.length_cons]
    exact i.mono (by omega) (by omega)
theorem shown_prog (H : Good P) : Shown (eProg P) 70 300000 := by
  have h5 := H.F.dec
  have h6 := H.F.dfs
  have h1 := H.h1
  unfold bodies at h1
  have i := shown_tup (showns_map (f := eDecl) (p := 5) (l := 4000) (xs := P.decls) fun d m => shown_decl H m)
  have j := shown_tup (shown_defs P.defs fun q m => by
    obtain ⟨w1, w2⟩ := H.F.hea q m
    have t := tds_mem (List.mem_map_of_mem (f := fun q : List Slot × T => q.2) m)
    have h2 := H.h2
    unfold bodies at h2
    refine ⟨shown_slots (fun s ms => by have := w2 s ms; unfold SlotOk at this; omega) w1, (shown_S H q.2 q.1 (H.hb q m) (by omega)).mono (by omega) (by omega)⟩)
  exact (shown_tup (showns_cons i (showns_cons j showns_nil))).mono (by omega) (by omega)
end
end Ap

end
section
set_option linter.all false
set_option maxRecDepth 100000
set_option maxHeartbeats 1000000
/-! Plain forms: plain laws. -/
namespace Ap
open Ev
def mapZ {α : Type} (g : α → T → Option T) : List α → List T → Option (List T)
  | _, [] => some []
  | [], _ :: _ => some []
  | a :: r, x :: xs => match g a x, mapZ g r xs with
    | some x', some xs' => some (x' :: xs')
    | _, _ => none
def plS1 (P : Prog) (S : Nat → T → Option T) (F : Nat → Nat → T → Option T) (n : Nat) (s : T) : Option T := match liftedT P n s with
  | some q => match F n q.1.2 q.2.1, S (n + 1) q.2.2 with
    | some x, some r => some (mkCut q.1 x r)
    | _, _ => none
  | none => match s with
    | .cut t p c => match F n t p, F n t c with
      | some p', some c' => some (.cut t p' c')
      | _, _ => none
    | .call j xs => (mapZ (fun s x => F n s.2 x) (P.params j) xs).map (.call j)
    | s => some s
def plT1 (P : Prog) (S : Nat → T → Option T) (F : Nat → Nat → T → Option T) (n t : Nat) (x : T) : Option T := match x with
  | .bind s => (S (n + 1) s).map .bind
  | .make h xs => (mapZ (fun s x => F n s.2 x) (P.shape t h) xs).map (.make h)
  | .mtch ss => (mapZ (fun sh x => S (n + sh.length) x) (P.shapes t) ss).map .mtch
  | x => some x
/-- the plain forms, with so much fuel: of statements, of terms -/
def pl (P : Prog) : Nat → (Nat → T → Option T) × (Nat → Nat → T → Option T)
  | 0 => (fun _ _ => none, fun _ _ _ => none)
  | f + 1 => (plS1 P (pl P f).1 (pl P f).2, plT1 P (pl P f).1 (pl P f).2)
abbrev plS (P : Prog) (f n : Nat) (s : T) : Option T := (pl P f).1 n s
abbrev plT (P : Prog) (f n t : Nat) (x : T) : Option T := (pl P f).2 n t x
abbrev plTs (P : Prog) (f n : Nat) (sl : List Slot) (xs : List T) : Option (List T) := mapZ (fun s x => plT P f n s.2 x) sl xs
abbrev plBs (P : Prog) (f n : Nat) (sh : List (List Slot)) (xs : List T) : Option (List T) := mapZ (fun s x => plS P f (n + s.length) x) sh xs
theorem plS_succ {P : Prog} {f n : Nat} {s : T} : plS P (f + 1) n s = plS1 P (plS P f) (plT P f) n s := rfl
theorem plT_succ {P : Prog} {f n t : Nat} {s : T} : plT P (f + 1) n t s = plT1 P (plS P f) (plT P f) n t s := rfl
theorem mapZ_cons {α : Type} {g : α → T → Option T} {a : α} {r : List α} {x : T} {xs ys : List T} (h : mapZ g (a :: r) (x :: xs) = some ys) : ∃ x' xs', g a x = some x' ∧ mapZ g r xs = some xs' ∧ ys = x' :: xs' := by
  unfold mapZ at h
  split at h
  · rename_i x' xs' h1 h2
    injection h with h
    exact ⟨x', xs', h1, h2, h.symm⟩
  · cases h
theorem mapZ_nil {α : Type} {g : α → T → Option T} {sl : List α} {ys : List T} (h : mapZ g sl [] = some ys) : ys = [] := by
  unfold mapZ at h
  injection h with h
  exact h.symm
theorem mapZ_mono {α : Type} {g g' : α → T → Option T} (hg : ∀ a x y, g a x = some y → g' a x = some y) : ∀ {sl : List α} {xs ys : List T}, mapZ g sl xs = some ys → mapZ g' sl xs = some ys
  | sl, [], ys, h => by rw [mapZ_nil h]; unfold mapZ; rfl
  | [], x :: xs, ys, h => by unfold mapZ at h ⊢; exact h
  | a :: r, x :: xs, ys, h => by
    obtain ⟨x', xs', h1, h2, rfl⟩ := mapZ_cons h
    have i := mapZ_mono hg h2
    unfold mapZ
    simp only [hg _ _ _ h1, i]
/-- how a statement's form is made -/
inductive StepS (P : Prog) (f n : Nat) : T → T → Prop
  | pull (s : T) (q : Slot × T × T) (x r : T) : liftedT P n s = some q → plT P f n q.1.2 q.2.1 = some x → plS P f (n + 1) q.2.2 = some r → StepS P f n s (mkCut q.1 x r)
  | cut (t : Nat) (p c p' c' : T) : liftedT P n (.cut t p c) = none → plT P f n t p = some p' → plT P f n t c = some c' → StepS P f n (.cut t p c) (.cut t p' c')
  | call (j : Nat) (xs ys : List T) : liftedT P n (.call j xs) = none → plTs P f n (P.params j) xs = some ys → StepS P f n (.call j xs) (.call j ys)
  | other (s : T) : liftedT P n s = none → (∀ t p c, s ≠ .cut t p c) → (∀ j xs, s ≠ .call j xs) → StepS P f n s s
theorem plS_cases {P : Prog} {f n : Nat} {s r : T} (h : plS P (f + 1) n s = some r) : StepS P f n s r := by
  rw [plS_succ] at h
  unfold plS1 at h
  split at h
  · rename_i q hq
    split at h
    · rename_i x r' h1 h2
      injection h with h
      subst h
      exact .pull s q x r' hq h1 h2
    · cases h
  · rename_i hq
    split at h
    · rename_i t p c
      split at h
      · rename_i p' c' h1 h2
        injection h with h
        subst h
        exact .cut t p c p' c' hq h1 h2
      · cases h
    · rename_i j xs
      obtain ⟨ys, h1, rfl⟩ := Option.map_eq_some_iff.mp h
      exact .call j xs ys hq h1
    · rename_i h1 h2
      injection h with h
      subst h
      exact .other s hq h1 h2
theorem plS_of {P : Prog} {f n : Nat} {s r : T} (h : StepS P f n s r) : plS P (f + 1) n s = some r := by
  rw [plS_succ]
  unfold plS1
  cases h with
  | pull _ q x r h1 h2 h3 => simp only [h1, h2, h3]
  | cut t p c p' c' h1 h2 h3 => simp only [h1, h2, h3]
  | call j xs ys h1 h2 => simp only [h1, h2, Option.map_some]
  | other _ h1 h2 h3 =>
    simp only [h1]
/-- how a term's form is made -/
inductive StepF (P : Prog) (f n t : Nat) : T → T → Prop
  | bind (s r : T) : plS P f (n + 1) s = some r → StepF P f n t (.bind s) (.bind r)
  | make (h : Nat) (xs ys : List T) : plTs P f n (P.shape t h) xs = some ys → StepF P f n t (.make h xs) (.make h ys)
  | mtch (xs ys : List T) : plBs P f n (P.shapes t) xs = some ys → StepF P f n t (.mtch xs) (.mtch ys)
  | other (x : T) : (∀ s, x ≠ .bind s) → (∀ h xs, x ≠ .make h xs) → (∀ xs, x ≠ .mtch xs) → StepF P f n t x x
theorem plT_cases {P : Prog} {f n t : Nat} {s r : T} (h : plT P (f + 1) n t s = some r) : StepF P f n t s r := by
  rw [plT_succ] at h
  unfold plT1 at h
  split at h
  · obtain ⟨y, h1, rfl⟩ := Option.map_eq_some_iff.mp h
    exact .bind _ y h1
  · obtain ⟨y, h1, rfl⟩ := Option.map_eq_some_iff.mp h
    exact .make _ _ y h1
  · obtain ⟨y, h1, rfl⟩ := Option.map_eq_some_iff.mp h
    exact .mtch _ y h1
  · rename_i h1 h2 h3
    injection h with h
    subst h
    exact .other s h1 h2 h3
theorem plT_of {P : Prog} {f n t : Nat} {s r : T} (h : StepF P f n t s r) : plT P (f + 1) n t s = some r := by
  rw [plT_succ]
  unfold plT1
  cases h with
  | bind s r h1 => simp only [h1, Option.map_some]
  | make k xs ys h1 => simp only [h1, Option.map_some]
  | mtch xs ys h1 => simp only [h1, Option.map_some]
  | other _ h1 h2 h3 =>
    split
    · rename_i t; exact absurd rfl (h1 t)
    · rename_i j xs; exact absurd rfl (h2 j xs)
    · rename_i xs; exact absurd rfl (h3 xs)
    · rfl
theorem pl_mono1 {P : Prog} : ∀ (f : Nat), (∀ n s r, plS P f n s = some r → plS P (f + 1) n s = some r) ∧ (∀ n t s r, plT P f n t s = some r → plT P (f + 1) n t s = some r)
  | 0 => ⟨fun n s r h => (by cases h), fun n t s r h => (by cases h)⟩
  | f + 1 => by
    obtain ⟨i1, i2⟩ := pl_mono1 (P := P) f
    refine ⟨fun n s r h => ?_, fun n t s r h => ?_⟩
    · have q := plS_cases h
      refine plS_of ?_
      cases q with
      | pull _ q x r h1 h2 h3 => exact .pull _ q x r h1 (i2 _ _ _ _ h2) (i1 _ _ _ h3)
      | cut t p c p' c' h1 h2 h3 => exact .cut t p c p' c' h1 (i2 _ _ _ _ h2) (i2 _ _ _ _ h3)
      | call j xs ys h1 h2 => exact .call j xs ys h1 (mapZ_mono (fun a x y hh => i2 _ _ _ _ hh) h2)
      | other _ h1 h2 h3 => exact .other _ h1 h2 h3
    · have q := plT_cases h
      refine plT_of ?_
      cases q with
      | bind s r h1 => exact .bind s r (i1 _ _ _ h1)
      | make k xs ys h1 => exact .make k xs ys (mapZ_mono (fun a x y hh => i2 _ _ _ _ hh) h1)
      | mtch xs ys h1 => exact .mtch xs ys (mapZ_mono (fun a x y hh => i1 _ _ _ hh) h1)
      | other _ h1 h2 h3 => exact .other _ h1 h2 h3
theorem plS_mono {P : Prog} {f n : Nat} {s r : T} (h : plS P f n s = some r) : ∀ k, plS P (f + k) n s = some r
  | 0 => h
  | k + 1 => (pl_mono1 (f + k)).1 n s r (plS_mono h k)
theorem plT_mono {P : Prog} {f n t : Nat} {s r : T} (h : plT P f n t s = some r) : ∀ k, plT P (f + k) n t s = some r
  | 0 => h
  | k + 1 => (pl_mono1 (f + k)).2 n t s r (plT_mono h k)
theorem plS_le {P : Prog} {f g n : Nat} {s r : T} (h : plS P f n s = some r) (hg : f ≤ g) : plS P g n s = some r := by
  obtain ⟨k, rfl⟩ : ∃ k, g = f + k := ⟨g - f, by omega⟩
  exact plS_mono h k
theorem plT_le {P : Prog} {f g n t : Nat} {s r : T} (h : plT P f n t s = some r) (hg : f ≤ g) : plT P g n t s = some r := by
  obtain ⟨k, rfl⟩ : ∃ k, g = f + k := ⟨g - f, by omega⟩
  exact plT_mono h k
theorem plS_det {P : Prog} {f g n : Nat} {s r r' : T} (h : plS P f n s = some r) (h' : plS P g n s = some r') : r = r' := by
  have a := plS_le (g := max f g) h (by omega)
  have b := plS_le (g := max f g) h' (by omega)
  rw [a] at b
  injection b
/-! ### lifting all -/
section
variable {P : Prog}
mutual
theorem lift_lift {n i : Nat} : ∀ x : T, lift (n + i) 1 (lift 0 i x) = lift 0 i (lift n 1 x)
  | .var k => by
    simp only [lift, Nat.zero_le, if_true]
    by_cases h : n ≤ k
    · rw [if_pos (by omega), if_pos h]
      simp only [lift, Nat.zero_le, if_true]
      congr 1; omega
    · rw [if_neg (by omega), if_neg h]
      simp only [lift, Nat.zero_le, if_true]
  | .bind s => by simp only [lift, lift_lift s]
  | .make h as => by simp only [lift, lifts_lift as]
  | .mtch ss => by simp only [lift, lifts_lift ss]
  | .cut t p c => by simp only [lift, lift_lift p, lift_lift c]
  | .call j as => by simp only [lift, lifts_lift as]
  | .stop n => rfl
theorem lifts_lift {n i : Nat} : ∀ x : List T, lifts (n + i) 1 (lifts 0 i x) = lifts 0 i (lifts n 1 x)
  | [] => rfl
  | x :: xs => by simp only [lifts, lift_lift x, lifts_lift xs]
end
mutual
theorem pullT_lift {n i : Nat} : ∀ (x : T) (s : Slot), pullT P (n + i) s (lift 0 i x) = (pullT P n s x).map fun q => (q.1, lift 0 i q.2.1, lift 0 i q.2.2)
  | .bind x, s => by
    simp only [pullT, lift]
    split
    · rfl
    · simp only [Option.map_some, lift, Nat.zero_le, if_true]
  | .make h as, s => by
    simp only [pullT, lift, pullTs_lift as, Option.map_map]
    rfl
  | .var k, _ => by simp only [lift, Nat.zero_le, if_true, pullT, Option.map_none]
  | .mtch _, _ => rfl
  | .cut _ _ _, _ => rfl
  | .call _ _, _ => rfl
  | .stop _, _ => rfl
theorem pullTs_lift {n i : Nat} : ∀ (xs : List T) (sl : List Slot), pullTs P (n + i) sl (lifts 0 i xs) = (pullTs P n sl xs).map fun q => (q.1, lift 0 i q.2.1, lifts 0 i q.2.2)
  | [], sl => by simp only [lifts, pullTs, Option.map_none]
  | x :: xs, [] => by simp only [lifts, pullTs, Option.map_none]
  | x :: xs, s :: r => by
    simp only [lifts, pullTs, pullT_lift x s, pullTs_lift xs r]
    cases pullT P n s x with
    | some q => simp only [Option.map_some, lifts, lifts_lift]
    | none =>
      simp only [Option.map_none, Option.map_map]
      congr 1
      funext q
      simp only [Function.comp, lifts, lift_lift]
end
theorem lift_join {b d t : Nat} {m w : T} : lift b d (P.join t m w) = P.join t (lift b d m) (lift b d w) := by
  unfold Prog.join
  split <;> rfl
theorem lift_mkCut {b d : Nat} {s : Slot} {x y : T} : lift b d (mkCut s x y) = mkCut s (lift b d x) (lift b d y) := by
  unfold mkCut
  split <;> rfl
theorem liftedT_lift {n i : Nat} {s : T} : liftedT P (n + i) (lift 0 i s) = (liftedT P n s).map fun q => (q.1, lift 0 i q.2.1, lift 0 i q.2.2) := by
  cases s with
  | call j xs =>
    simp only [liftedT, lift, pullTs_lift, Option.map_map]
    rfl
  | cut t p c =>
    simp only [liftedT, lift, sides_lift]
    generalize P.sides t p c = q
    obtain ⟨m, w⟩ := q
    cases m with
    | make h as =>
      simp only [liftedC, lift, pullTs_lift, Option.map_map]
      congr 1
      funext q
      simp only [Function.comp, lift_join, lift, lift_lift]
    | var k => simp only [lift, Nat.zero_le, if_true, liftedC, Option.map_none]
    | _ => rfl
  | var k => simp only [lift, Nat.zero_le, if_true, liftedT, Option.map_none]
  | _ => rfl
theorem mapZ_lift {α : Type} {i : Nat} {g g' : α → T → Option T} (hg : ∀ a x y, g a x = some y → g' a (lift 0 i x) = some (lift 0 i y)) : ∀ {sl : List α} {xs ys : List T}, mapZ g sl xs = some ys → mapZ g' sl (lifts 0 i xs) = some (lifts 0 i ys)
  | sl, [], ys, h => by rw [mapZ_nil h]; unfold mapZ lifts; rfl
  | [], x :: xs, ys, h => by
    unfold mapZ at h
    injection h with h
    subst h
    unfold mapZ lifts
    rfl
  | a :: r, x :: xs, ys, h => by
    obtain ⟨x', xs', h1, h2, rfl⟩ := mapZ_cons h
    have i := mapZ_lift hg h2
    simp only [lifts]
    unfold mapZ
    simp only [hg _ _ _ h1, i]
theorem pl_lift {i : Nat} : ∀ (f : Nat), (∀ n s r, plS P f n s = some r → plS P f (n + i) (lift 0 i s) = some (lift 0 i r)) ∧ (∀ n t s r, plT P f n t s = some r → plT P f (n + i) t (lift 0 i s) = some (lift 0 i r))
  | 0 => ⟨fun n s r h => (by cases h), fun n t s r h => (by cases h)⟩
  | f + 1 => by
    obtain ⟨i1, i2⟩ := pl_lift (i := i) f
    refine ⟨fun n s r h => ?_, fun n t s r h => ?_⟩
    · have q := plS_cases h
      refine plS_of ?_
      have ll := liftedT_lift (P := P) (n := n) (i := i) (s := s)
      cases q with
      | pull _ q x r h1 h2 h3 =>
        rw [h1] at ll
        rw [lift_mkCut]
        refine .pull _ (q.1, lift 0 i q.2.1, lift 0 i q.2.2) _ _ ll (i2 _ _ _ _ h2) ?_
        have := i1 _ _ _ h3
        rwa [show n + 1 + i = n + i + 1 by omega] at this
      | cut t p c p' c' h1 h2 h3 =>
        rw [h1] at ll
        simp only [lift] at ll ⊢
        exact .cut t _ _ _ _ ll (i2 _ _ _ _ h2) (i2 _ _ _ _ h3)
      | call j xs ys h1 h2 =>
        rw [h1] at ll
        simp only [lift] at ll ⊢
        exact .call j _ _ ll (mapZ_lift (fun a x y hh => i2 _ _ _ _ hh) h2)
      | other _ h1 h2 h3 =>
        rw [h1] at ll
        refine .other _ ll (fun t p c e => ?_) (fun j xs e => ?_)
        · cases s with
          | cut t p c => exact h2 t p c rfl
          | _ => simp [lift] at e
        · cases s with
          | call j xs => exact h3 j xs rfl
          | _ => simp [lift] at e
    · have q := plT_cases h
      refine plT_of ?_
      cases q with
      | bind s r h1 =>
        simp only [lift]
        refine .bind _ _ ?_
        have := i1 _ _ _ h1
        rwa [show n + 1 + i = n + i + 1 by omega] at this
      | make k xs ys h1 =>
        simp only [lift]
        exact .make k _ _ (mapZ_lift (fun a x y hh => i2 _ _ _ _ hh) h1)
      | mtch xs ys h1 =>
        simp only [lift]
        refine .mtch _ _ (mapZ_lift (fun a x y hh => ?_) h1)
        have := i1 _ _ _ hh
        rwa [show n + a.length + i = n + i + a.length by omega] at this
      | other _ h1 h2 h3 =>
        refine .other _ (fun y e => ?_) (fun k xs e => ?_) (fun xs e => ?_)
        · cases s with
          | bind y => exact h1 y rfl
          | _ => simp [lift] at e
        · cases s with
          | make k xs => exact h2 k xs rfl
          | _ => simp [lift] at e
        · cases s with
          | mtch xs => exact h3 xs rfl
          | _ => simp [lift] at e
end
end Ap

end
section
set_option linter.all false
set_option maxRecDepth 100000
set_option maxHeartbeats 1000000
/-! Plain forms: typing, what is plain, substitution. -/
namespace Ap
open Ev
section
variable {P Q : Prog}
/-! the same head -/
mutual
theorem pullT_head (hd : Q.decls = P.decls) {n : Nat} : ∀ (x : T) (s : Slot), pullT Q n s x = pullT P n s x
  | .bind x, s => by simp only [pullT, makes_head hd]
  | .make h as, s => by simp only [pullT, shape_head hd, pullTs_head hd as]
  | .var _, s => rfl
  | .mtch _, s => rfl
  | .cut _ _ _, s => rfl
  | .call _ _, s => rfl
  | .stop _, s => rfl
theorem pullTs_head (hd : Q.decls = P.decls) {n : Nat} : ∀ (xs : List T) (sl : List Slot), pullTs Q n sl xs = pullTs P n sl xs
  | [], sl => by simp only [pullTs]
  | x :: xs, [] => by simp only [pullTs]
  | x :: xs, s :: r => by simp only [pullTs, pullT_head hd x, pullTs_head hd xs]
end
theorem isPlain_head (hd : Q.decls = P.decls) {x : T} {s : Slot} : isPlain Q s x = isPlain P s x := by
  rw [← pullT_none (n := 0), ← pullT_none (n := 0), pullT_head hd]
theorem arePlain_head (hd : Q.decls = P.decls) {xs : List T} {sl : List Slot} : arePlain Q sl xs = arePlain P sl xs := by
  rw [← pullTs_none (n := 0), ← pullTs_none (n := 0), pullTs_head hd]
mutual
theorem subS_head (hd : Q.decls = P.decls) (hp : ∀ j, Q.params j = P.params j) {f l : Nat} {as : List T} : ∀ (x : T) (i : Nat), subS Q f as l i x = subS P f as l i x
  | .cut t p c, i => by simp only [subS, subT_head hd hp p, subT_head hd hp c]
  | .call j xs, i => by simp only [subS, hp, subTs_head hd hp xs]
  | .var _, i => rfl
  | .bind _, i => rfl
  | .make _ _, i => rfl
  | .mtch _, i => rfl
  | .stop _, i => rfl
theorem subT_head (hd : Q.decls = P.decls) (hp : ∀ j, Q.params j = P.params j) {f l : Nat} {as : List T} : ∀ (x : T) (t i : Nat), subT Q f as l t i x = subT P f as l t i x
  | .var k, t, i => rfl
  | .bind x, t, i => by simp only [subT, subS_head hd hp x]
  | .make h xs, t, i => by simp only [subT, shape_head hd, subTs_head hd hp xs]
  | .mtch ss, t, i => by simp only [subT, shapes_head hd, subBs_head hd hp ss]
  | .cut _ _ _, t, i => rfl
  | .call _ _, t, i => rfl
  | .stop _, t, i => rfl
theorem subTs_head (hd : Q.decls = P.decls) (hp : ∀ j, Q.params j = P.params j) {f l : Nat} {as : List T} : ∀ (xs : List T) (sl : List Slot) (i : Nat), subTs Q f as l sl i xs = subTs P f as l sl i xs
  | [], sl, i => by simp only [subTs]
  | x :: xs, [], i => by simp only [subTs]
  | x :: xs, s :: r, i => by simp only [subTs, subT_head hd hp x, subTs_head hd hp xs]
theorem subBs_head (hd : Q.decls = P.decls) (hp : ∀ j, Q.params j = P.params j) {f l : Nat} {as : List T} : ∀ (xs : List T) (sh : List (List Slot)) (i : Nat), subBs Q f as l sh i xs = subBs P f as l sh i xs
  | [], sl, i => by simp only [subBs]
  | x :: xs, [], i => by simp only [subBs]
  | x :: xs, s :: r, i => by simp only [subBs, subS_head hd hp x, subBs_head hd hp xs]
end
theorem sides_head (hd : Q.decls = P.decls) {t : Nat} {p c : T} : Q.sides t p c = P.sides t p c := by unfold Prog.sides; rw [makes_head hd]
theorem join_head (hd : Q.decls = P.decls) {t : Nat} {p c : T} : Q.join t p c = P.join t p c := by unfold Prog.join; rw [makes_head hd]
theorem liftedT_head (hd : Q.decls = P.decls) (hp : ∀ j, Q.params j = P.params j) {n : Nat} {s : T} : liftedT Q n s = liftedT P n s := by
  cases s with
  | call j xs => simp only [liftedT, hp, pullTs_head hd]
  | cut t p c =>
    simp only [liftedT, sides_head hd]
    generalize (P.sides t p c).1 = m
    cases m with
    | make h as => simp only [liftedC, shape_head hd, pullTs_head hd, join_head hd]
    | _ => rfl
  | _ => rfl
end
section
variable {P : Prog}
/-! typing -/
theorem lifted_okS (W : PWf P) {ctx : List Slot} {s : T} {q : Slot × T × T} (h : okS P ctx s) (hx : liftedT P ctx.length s = some q) : SlotOk P q.1 ∧ okT P ctx q.1 q.2.1 ∧ okS P (ctx ++ [q.1]) q.2.2 := by
  cases s with
  | call j xs =>
    simp only [okS] at h
    simp only [liftedT] at hx
    obtain ⟨q, h1, rfl⟩ := Option.map_eq_some_iff.mp hx
    obtain ⟨a1, a2, a3⟩ := pull_okTs W xs _ q h.2 (W.par j) h1
    exact ⟨a1, a2, by simp only [okS]; exact ⟨h.1, a3⟩⟩
  | cut t p c =>
    simp only [okS] at h
    obtain ⟨h0, h1, h2⟩ := h
    obtain ⟨k1, k2⟩ := sides_okT h1 h2
    simp only [liftedT] at hx
    generalize (P.sides t p c).1 = m at *
    generalize (P.sides t p c).2 = w at *
    cases m with
    | make k as =>
      simp only [liftedC] at hx
      obtain ⟨q, h3, rfl⟩ := Option.map_eq_some_iff.mp hx
      simp only [okT] at k1
      obtain ⟨a1, a2, a3⟩ := pull_okTs W as _ q k1.2.2 W.shape h3
      refine ⟨a1, a2, join_ok h0 (by simp only [okT]; exact ⟨trivial, k1.2.1, a3⟩) ?_⟩
      have := lift_okT (P := P) (Γ := ctx) (F := [q.1]) w _ [] (by simpa using k2)
      simpa using this
    | _ => simp [liftedC] at hx
  | _ => simp [liftedT] at hx
mutual
/-- what is pulled is a bind on the making side -/
theorem pull_bind {n : Nat} : ∀ (x : T) (s : Slot) (q : Slot × T × T), pullT P n s x = some q → (∃ y, q.2.1 = .bind y) ∧ q.1.1 = P.makes q.1.2
  | .bind y, s, q, hq => by
    simp only [pullT] at hq
    split at hq
    · exact absurd hq (by simp)
    · rename_i hs
      injection hq with hq
      subst hq
      exact ⟨⟨y, rfl⟩, by simpa using hs⟩
  | .make k as, s, q, hq => by
    simp only [pullT] at hq
    obtain ⟨q', h1, rfl⟩ := Option.map_eq_some_iff.mp hq
    exact pulls_bind as _ q' h1
  | .var _, s, q, hq => by simp [pullT] at hq
  | .mtch _, s, q, hq => by simp [pullT] at hq
  | .cut _ _ _, s, q, hq => by simp [pullT] at hq
  | .call _ _, s, q, hq => by simp [pullT] at hq
  | .stop _, s, q, hq => by simp [pullT] at hq
theorem pulls_bind {n : Nat} : ∀ (xs : List T) (sl : List Slot) (q : Slot × T × List T), pullTs P n sl xs = some q → (∃ y, q.2.1 = .bind y) ∧ q.1.1 = P.makes q.1.2
  | [], sl, q, hq => by simp [pullTs] at hq
  | x :: xs, [], q, hq => by simp [pullTs] at hq
  | x :: xs, s :: r, q, hq => by
    simp only [pullTs] at hq
    split at hq
    · rename_i q' h3
      injection hq with hq
      subst hq
      exact pull_bind x s q' h3
    · obtain ⟨q', h3, rfl⟩ := Option.map_eq_some_iff.mp hq
      exact pulls_bind xs r q' h3
end
theorem lifted_bind {n : Nat} {s : T} {q : Slot × T × T} (hx : liftedT P n s = some q) : (∃ y, q.2.1 = .bind y) ∧ q.1.1 = P.makes q.1.2 := by
  cases s with
  | call j xs =>
    simp only [liftedT] at hx
    obtain ⟨q, h1, rfl⟩ := Option.map_eq_some_iff.mp hx
    exact pulls_bind xs _ q h1
  | cut t p c =>
    simp only [liftedT] at hx
    generalize (P.sides t p c).1 = m at *
    cases m with
    | make k as =>
      simp only [liftedC] at hx
      obtain ⟨q, h3, rfl⟩ := Option.map_eq_some_iff.mp hx
      exact pulls_bind as _ q h3
    | _ => simp [liftedC] at hx
  | _ => simp [liftedT] at hx
theorem mapZ_ts {ctx : List Slot} {g : Slot → T → Option T} : ∀ {xs ys : List T} {sl : List Slot}, (∀ s ∈ sl, SlotOk P s) → (∀ s x y, SlotOk P s → okT P ctx s x → g s x = some y → okT P ctx s y) → okTs P ctx sl xs → mapZ g sl xs = some ys → okTs P ctx sl ys
  | [], ys, sl, hs, hg, ho, h => by rw [mapZ_nil h]; exact ho
  | x :: xs, ys, sl, hs, hg, ho, h => by
    simp only [okTs] at ho
    obtain ⟨s, r, rfl, h1, h2⟩ := ho
    obtain ⟨x', xs', g1, g2, rfl⟩ := mapZ_cons h
    simp only [okTs]
    exact ⟨s, r, rfl, hg _ _ _ (hs s List.mem_cons_self) h1 g1, mapZ_ts (fun y m => hs y (List.mem_cons_of_mem _ m)) hg h2 g2⟩
theorem mapZ_bs {ctx : List Slot} {g : List Slot → T → Option T} : ∀ {xs ys : List T} {sl : List (List Slot)}, (∀ s x y, okS P (ctx ++ s) x → g s x = some y → okS P (ctx ++ s) y) → okBs P ctx sl xs → mapZ g sl xs = some ys → okBs P ctx sl ys
  | [], ys, sl, hg, ho, h => by rw [mapZ_nil h]; exact ho
  | x :: xs, ys, sl, hg, ho, h => by
    simp only [okBs] at ho
    obtain ⟨s, r, rfl, h1, h2⟩ := ho
    obtain ⟨x', xs', g1, g2, rfl⟩ := mapZ_cons h
    simp only [okBs]
    exact ⟨s, r, rfl, hg _ _ _ h1 g1, mapZ_bs hg h2 g2⟩
theorem pl_ok (W : PWf P) : ∀ (f : Nat), (∀ ctx s r, okS P ctx s → plS P f ctx.length s = some r → okS P ctx r) ∧ (∀ ctx sl s r, SlotOk P sl → okT P ctx sl s → plT P f ctx.length sl.2 s = some r → okT P ctx sl r)
  | 0 => ⟨fun ctx s r _ h => (by cases h), fun ctx t s r _ _ h => (by cases h)⟩
  | f + 1 => by
    obtain ⟨i1, i2⟩ := pl_ok W f
    refine ⟨fun ctx s r ho h => ?_, fun ctx sl s r hs ho h => ?_⟩
    · have q := plS_cases h
      cases q with
      | pull _ q x r h1 h2 h3 =>
        obtain ⟨a1, a2, a3⟩ := lifted_okS W ho h1
        exact mkCut_ok a1 (i2 _ _ _ _ a1 a2 h2) (i1 (ctx ++ [q.1]) _ _ a3 (by simpa using h3))
      | cut t p c p' c' h1 h2 h3 =>
        simp only [okS] at ho ⊢
        exact ⟨ho.1, i2 ctx (true, t) _ _ ho.1 ho.2.1 h2, i2 ctx (false, t) _ _ ho.1 ho.2.2 h3⟩
      | call j xs ys h1 h2 =>
        simp only [okS] at ho ⊢
        exact ⟨ho.1, mapZ_ts (W.par j) (fun s x y hs hx hy => i2 ctx s x y hs hx hy) ho.2 h2⟩
      | other _ h1 h2 h3 => exact ho
    · have q := plT_cases h
      cases q with
      | bind s r h1 =>
        simp only [okT] at ho ⊢
        exact i1 (ctx ++ [(!sl.1, sl.2)]) _ _ ho (by simpa using h1)
      | make k xs ys h1 =>
        simp only [okT] at ho ⊢
        exact ⟨ho.1, ho.2.1, mapZ_ts W.shape (fun s x y hs hx hy => i2 ctx s x y hs hx hy) ho.2.2 h1⟩
      | mtch xs ys h1 =>
        simp only [okT] at ho ⊢
        exact ⟨ho.1, mapZ_bs (fun s x y hx hy => i1 (ctx ++ s) x y hx (by simpa using hy)) ho.2 h1⟩
      | other _ h1 h2 h3 => exact ho
/-! what is plain stays plain -/
theorem mapZ_plain {g : Slot → T → Option T} (hg : ∀ s x y, g s x = some y → isPlain P s y = isPlain P s x) : ∀ {sl : List Slot} {xs ys : List T}, mapZ g sl xs = some ys → arePlain P sl ys = arePlain P sl xs
  | sl, [], ys, h => by rw [mapZ_nil h]
  | [], x :: xs, ys, h => by
    unfold mapZ at h
    injection h with h
    subst h
    simp [arePlain]
  | s :: r, x :: xs, ys, h => by
    obtain ⟨x', xs', g1, g2, rfl⟩ := mapZ_cons h
    simp only [arePlain, hg _ _ _ g1, mapZ_plain hg g2]
theorem pl_plain : ∀ (f n : Nat) (s : Slot) (x y : T), plT P f n s.2 x = some y → isPlain P s y = isPlain P s x
  | 0, n, s, x, y, h => by cases h
  | f + 1, n, s, x, y, h => by
    have q := plT_cases h
    cases q with
    | bind s r h1 => simp only [isPlain]
    | make k xs ys h1 =>
      simp only [isPlain]
      exact mapZ_plain (fun s x y hh => pl_plain f n s x y hh) h1
    | mtch xs ys h1 => rfl
    | other _ h1 h2 h3 => rfl
theorem pls_plain {f n : Nat} {sl : List Slot} {xs ys : List T} (h : plTs P f n sl xs = some ys) : arePlain P sl ys = arePlain P sl xs := mapZ_plain (fun s x y hh => pl_plain f n s x y hh) h
theorem pullTs_iff {n m : Nat} {sl : List Slot} {xs ys : List T} (e : arePlain P sl ys = arePlain P sl xs) (h : pullTs P n sl xs = none) : pullTs P m sl ys = none := by
  rw [← Option.isNone_iff_eq_none] at h ⊢
  rw [pullTs_none] at h ⊢
  rw [e, h]
theorem plSides {f n t : Nat} {p c p' c' : T} (h2 : plT P f n t p = some p') (h3 : plT P f n t c = some c') : plT P f n t (P.sides t p c).1 = some (P.sides t p' c').1 ∧ plT P f n t (P.sides t p c).2 = some (P.sides t p' c').2 := by
  unfold Prog.sides
  split
  · exact ⟨h2, h3⟩
  · exact ⟨h3, h2⟩
theorem pl_third {f n m : Nat} {s r : T} (h : plS P f n s = some r) : liftedT P m r = none := by
  cases f with
  | zero => cases h
  | succ f =>
    have q := plS_cases h
    cases q with
    | pull _ q x r h1 h2 h3 =>
      obtain ⟨⟨y, hy⟩, hm⟩ := lifted_bind h1
      rw [hy] at h2
      cases f with
      | zero => cases h2
      | succ f =>
        have q2 := plT_cases h2
        cases q2 with
        | bind _ y' h4 =>
          obtain ⟨⟨b, t⟩, z⟩ := q
          simp only at hm
          subst hm
          unfold mkCut
          cases hb : P.makes t <;> simp [liftedT, Prog.sides, hb, liftedC]
        | other _ g1 g2 g3 => exact absurd rfl (g1 y)
    | cut t p c p' c' h1 h2 h3 =>
      obtain ⟨e1, e2⟩ := plSides h2 h3
      simp only [liftedT] at h1 ⊢
      generalize (P.sides t p c).1 = a at *
      generalize (P.sides t p' c').1 = a' at *
      cases f with
      | zero => cases h2
      | succ f =>
        have q2 := plT_cases e1
        cases q2 with
        | make k xs ys h4 =>
          simp only [liftedC, Option.map_eq_none_iff] at h1 ⊢
          exact pullTs_iff (pls_plain h4) h1
        | bind _ y' h4 => rfl
        | mtch _ y' h4 => rfl
        | other _ g1 g2 g3 =>
          cases a with
          | make k xs => exact absurd rfl (g2 k xs)
          | _ => rfl
    | call j xs ys h1 h2 =>
      simp only [liftedT, Option.map_eq_none_iff] at h1 ⊢
      exact pullTs_iff (pls_plain h2) h1
    | other _ h1 h2 h3 =>
      cases s with
      | cut t p c => exact absurd rfl (h2 t p c)
      | call j xs => exact absurd rfl (h3 j xs)
      | _ => rfl
/-! substitution -/
mutual
theorem lift_up {i j : Nat} (h : i ≤ j) : ∀ x : T, lift i 1 (lift 0 j x) = lift 0 (j + 1) x
  | .var k => by
    simp only [lift, Nat.zero_le, if_true]
    rw [if_pos (by omega)]
    congr 1
  | .bind s => by simp only [lift, lift_up h s]
  | .make k as => by simp only [lift, lifts_up h as]
  | .mtch ss => by simp only [lift, lifts_up h ss]
  | .cut t p c => by simp only [lift, lift_up h p, lift_up h c]
  | .call k as => by simp only [lift, lifts_up h as]
  | .stop n => rfl
theorem lifts_up {i j : Nat} (h : i ≤ j) : ∀ x : List T, lifts i 1 (lifts 0 j x) = lifts 0 (j + 1) x
  | [] => rfl
  | x :: xs => by simp only [lifts, lift_up h x, lifts_up h xs]
end
variable {as : List T}
theorem subV0 {i k : Nat} : subV 0 as 0 i k = match as[k]? with
    | some a => lift 0 i a
    | none => .var (k - as.length) := by
  unfold subV
  simp only [Nat.not_lt_zero, if_false, Nat.sub_zero, Nat.zero_add, Nat.add_zero]
  cases as[k]? with
  | none => rfl
  | some a =>
    simp only
    split
    · rename_i h; subst h; exact (lift_zero a).symm
    · rfl
theorem subV_lift1 {i j k : Nat} (h : i ≤ j) : (if as.length + i ≤ k then subV 0 as 0 (j + 1) (k + 1) else subV 0 as 0 (j + 1) k) = lift i 1 (subV 0 as 0 j k) := by
  simp only [subV0]
  by_cases hk : k < as.length
  · rw [if_neg (by omega), List.getElem?_eq_getElem hk]
    simp only
    exact (lift_up h _).symm
  · rw [List.getElem?_eq_none (by omega), List.getElem?_eq_none (by omega)]
    simp only [lift]
    split
    · rw [if_pos (by omega)]; congr 1; omega
    · rw [if_neg (by omega)]
mutual
theorem subS_lift1 {i : Nat} : ∀ (x : T) (j : Nat) (ctx : List Slot), i ≤ j → okS P ctx x → subS P 0 as 0 (j + 1) (lift (as.length + i) 1 x) = lift i 1 (subS P 0 as 0 j x)
  | .cut t p c, j, ctx, h, ho => by
    simp only [okS] at ho
    simp only [lift, subS, subT_lift1 p _ (true, t) _ h ho.2.1, subT_lift1 c _ (false, t) _ h ho.2.2]
  | .call k xs, j, ctx, h, ho => by
    simp only [okS] at ho
    simp only [lift, subS, subTs_lift1 xs _ _ _ h ho.2]
  | .stop _, j, ctx, h, ho => rfl
  | .var _, j, ctx, h, ho => by simp [okS] at ho
  | .bind _, j, ctx, h, ho => by simp [okS] at ho
  | .make _ _, j, ctx, h, ho => by simp [okS] at ho
  | .mtch _, j, ctx, h, ho => by simp [okS] at ho
theorem subT_lift1 {i : Nat} : ∀ (x : T) (j : Nat) (s : Slot) (ctx : List Slot), i ≤ j → okT P ctx s x → subT P 0 as 0 s.2 (j + 1) (lift (as.length + i) 1 x) = lift i 1 (subT P 0 as 0 s.2 j x)
  | .var k, j, s, ctx, h, ho => by
    have := subV_lift1 (as := as) (k := k) h
    simp only [lift, subT]
    split
    · rename_i hk
      rw [if_pos hk] at this
      simpa only [subT] using this
    · rename_i hk
      rw [if_neg hk] at this
      simpa only [subT] using this
  | .bind x, j, s, ctx, h, ho => by
    simp only [okT] at ho
    have := subS_lift1 (i := i) x (j + 1) _ (by omega) ho
    simp only [lift, subT, this]
  | .make k xs, j, s, ctx, h, ho => by
    simp only [okT] at ho
    simp only [lift, subT, subTs_lift1 xs _ _ _ h ho.2.2]
  | .mtch ss, j, s, ctx, h, ho => by
    simp only [okT] at ho
    simp only [lift, subT, subBs_lift1 ss _ _ _ h ho.2]
  | .cut _ _ _, j, s, ctx, h, ho => by simp [okT] at ho
  | .call _ _, j, s, ctx, h, ho => by simp [okT] at ho
  | .stop _, j, s, ctx, h, ho => rfl
theorem subTs_lift1 {i : Nat} : ∀ (xs : List T) (sl : List Slot) (j : Nat) (ctx : List Slot), i ≤ j → okTs P ctx sl xs → subTs P 0 as 0 sl (j + 1) (lifts (as.length + i) 1 xs) = lifts i 1 (subTs P 0 as 0 sl j xs)
  | [], sl, j, ctx, h, ho => by simp only [lifts, subTs]
  | x :: xs, sl, j, ctx, h, ho => by
    simp only [okTs] at ho
    obtain ⟨s, r, rfl, h1, h2⟩ := ho
    simp only [lifts, subTs, subT_lift1 x _ s _ h h1, subTs_lift1 xs _ _ _ h h2]
theorem subBs_lift1 {i : Nat} : ∀ (xs : List T) (sh : List (List Slot)) (j : Nat) (ctx : List Slot), i ≤ j → okBs P ctx sh xs → subBs P 0 as 0 sh (j + 1) (lifts (as.length + i) 1 xs) = lifts i 1 (subBs P 0 as 0 sh j xs)
  | [], sl, j, ctx, h, ho => by simp only [lifts, subBs]
  | x :: xs, sl, j, ctx, h, ho => by
    simp only [okBs] at ho
    obtain ⟨s, r, rfl, h1, h2⟩ := ho
    have e : j + 1 + s.length = (j + s.length) + 1 := by omega
    have i1 := subS_lift1 (i := i) x (j + s.length) _ (by omega) h1
    simp only [lifts, subBs, e, i1, subBs_lift1 xs _ _ _ h h2]
end
end
end Ap

end
section
set_option linter.all false
set_option maxRecDepth 100000
set_option maxHeartbeats 1000000
/-! Plain forms and substitution. -/
namespace Ap
open Ev
theorem arePlain_get {P : Prog} : ∀ {sl : List Slot} {xs : List T} {k : Nat} {s : Slot} {x : T}, arePlain P sl xs = true → sl[k]? = some s → xs[k]? = some x → isPlain P s x = true
  | [], xs, k, s, x, h, h1, h2 => by simp at h1
  | s :: r, [], k, s', x, h, h1, h2 => by simp at h2
  | s :: r, x :: xs, 0, s', x', h, h1, h2 => by
    simp at h1 h2
    subst h1 h2
    simp only [arePlain, Bool.and_eq_true] at h
    exact h.1
  | s :: r, x :: xs, k + 1, s', x', h, h1, h2 => by
    simp only [arePlain, Bool.and_eq_true] at h
    exact arePlain_get h.2 (by simpa using h1) (by simpa using h2)
theorem mapZ_get {α : Type} {g : α → T → Option T} : ∀ {sl : List α} {xs ys : List T} {k : Nat} {s : α} {x : T}, mapZ g sl xs = some ys → sl[k]? = some s → xs[k]? = some x → ∃ y, ys[k]? = some y ∧ g s x = some y
  | [], xs, ys, k, s, x, h, h1, h2 => by simp at h1
  | s :: r, [], ys, k, s', x, h, h1, h2 => by simp at h2
  | s :: r, x :: xs, ys, k, s', x', h, h1, h2 => by
    obtain ⟨y, ys', g1, g2, rfl⟩ := mapZ_cons h
    cases k with
    | zero =>
      simp at h1 h2
      subst h1 h2
      exact ⟨y, rfl, g1⟩
    | succ k => simpa using mapZ_get g2 (by simpa using h1) (by simpa using h2)
theorem mapZ_len {α : Type} {g : α → T → Option T} : ∀ {sl : List α} {xs ys : List T}, mapZ g sl xs = some ys → xs.length = sl.length → ys.length = xs.length
  | sl, [], ys, h, hl => by rw [mapZ_nil h]
  | [], x :: xs, ys, h, hl => by simp at hl
  | s :: r, x :: xs, ys, h, hl => by
    obtain ⟨y, ys', g1, g2, rfl⟩ := mapZ_cons h
    have := mapZ_len g2 (by simpa using hl)
    simp [this]
/-- closed terms that are plain, and their forms -/
structure Args (P : Prog) (Δ : List Slot) (as as' : List T) (f0 : Nat) : Prop where
  ok : okTs P [] Δ as
  pln : arePlain P Δ as = true
  frm : plTs P f0 0 Δ as = some as'
section
variable {P : Prog} {Δ : List Slot} {as as' : List T} {f0 : Nat}
theorem Args.len (A : Args P Δ as as' f0) : as.length = Δ.length := okTs_len A.ok
theorem Args.len' (A : Args P Δ as as' f0) : as'.length = Δ.length := by rw [mapZ_len A.frm A.len, A.len]
/-- a variable's term -/
theorem Args.at (A : Args P Δ as as' f0) {k : Nat} {s : Slot} (h : Δ[k]? = some s) : ∃ a a', as[k]? = some a ∧ as'[k]? = some a' ∧ isPlain P s a = true ∧ plT P f0 0 s.2 a = some a' := by
  have hk : k < as.length := by rw [A.len]; exact (List.getElem?_eq_some_iff.mp h).1
  have ha : as[k]? = some as[k] := List.getElem?_eq_getElem hk
  obtain ⟨a', h1, h2⟩ := mapZ_get A.frm h ha
  exact ⟨as[k], a', ha, h1, arePlain_get A.pln h ha, h2⟩
theorem plain_none {n i : Nat} {s : Slot} {a : T} (h : isPlain P s a = true) : pullT P (n + i) s (lift 0 i a) = none := by
  rw [pullT_lift]
  have := pullT_none (P := P) (n := n) a s
  rw [h] at this
  rw [Option.isNone_iff_eq_none.mp this]
  rfl
mutual
theorem pull_sub (A : Args P Δ as as' f0) {E : List Slot} : ∀ (x : T) (s : Slot), okT P (Δ ++ E) s x → pullT P E.length s (subT P 0 as 0 s.2 E.length x) = (pullT P (as.length + E.length) s x).map fun q => (q.1, subT P 0 as 0 q.1.2 E.length q.2.1, subT P 0 as 0 s.2 (E.length + 1) q.2.2)
  | .var k, s, h => by
    simp only [okT] at h
    simp only [subT, pullT, Option.map_none, subV0]
    by_cases hk : k < Δ.length
    · rw [List.getElem?_append_left hk] at h
      obtain ⟨a, a', h1, _, h3, _⟩ := A.at h
      rw [h1]
      have := plain_none (n := 0) (i := E.length) h3
      rw [Nat.zero_add] at this
      exact this
    · rw [List.getElem?_eq_none (by rw [A.len]; omega)]
      rfl
  | .bind x, s, h => by
    simp only [subT, pullT]
    split
    · rfl
    · simp only [Option.map_some, subT, subV0]
      rw [List.getElem?_eq_none (by omega)]
      simp only [Nat.add_sub_cancel_left]
  | .make k xs, s, h => by
    simp only [okT] at h
    simp only [subT, pullT, pulls_sub A xs _ h.2.2, Option.map_map]
    rfl
  | .mtch _, s, h => rfl
  | .cut _ _ _, s, h => rfl
  | .call _ _, s, h => rfl
  | .stop _, s, h => rfl
theorem pulls_sub (A : Args P Δ as as' f0) {E : List Slot} : ∀ (xs : List T) (sl : List Slot), okTs P (Δ ++ E) sl xs → pullTs P E.length sl (subTs P 0 as 0 sl E.length xs) = (pullTs P (as.length + E.length) sl xs).map fun q => (q.1, subT P 0 as 0 q.1.2 E.length q.2.1, subTs P 0 as 0 sl (E.length + 1) q.2.2)
  | [], sl, h => by simp only [subTs, pullTs, Option.map_none]
  | x :: xs, sl, h => by
    simp only [okTs] at h
    obtain ⟨s, r, rfl, h1, h2⟩ := h
    simp only [subTs, pullTs, pull_sub A x s h1, pulls_sub A xs r h2]
    cases pullT P (as.length + E.length) s x with
    | some q => simp only [Option.map_some, subTs, subTs_lift1 xs r E.length _ (Nat.le_refl _) h2]
    | none =>
      simp only [Option.map_none, Option.map_map]
      congr 1
      funext q
      simp only [Function.comp, subTs, subT_lift1 x E.length s _ (Nat.le_refl _) h1]
end
theorem sub_sides {t i : Nat} {p c : T} : P.sides t (subT P 0 as 0 t i p) (subT P 0 as 0 t i c) = (subT P 0 as 0 t i (P.sides t p c).1, subT P 0 as 0 t i (P.sides t p c).2) := by
  unfold Prog.sides
  split <;> rfl
theorem sub_join {t i : Nat} {m w : T} : subS P 0 as 0 i (P.join t m w) = P.join t (subT P 0 as 0 t i m) (subT P 0 as 0 t i w) := by
  unfold Prog.join
  split <;> rfl
theorem sub_mkCut {i : Nat} {s : Slot} {x y : T} : subS P 0 as 0 i (mkCut s x y) = mkCut s (subT P 0 as 0 s.2 i x) (subS P 0 as 0 (i + 1) y) := by
  unfold mkCut
  split <;> rfl
theorem lifted_sub (A : Args P Δ as as' f0) {E : List Slot} {s : T} (h : okS P (Δ ++ E) s) : liftedT P E.length (subS P 0 as 0 E.length s) = (liftedT P (as.length + E.length) s).map fun q => (q.1, subT P 0 as 0 q.1.2 E.length q.2.1, subS P 0 as 0 (E.length + 1) q.2.2) := by
  cases s with
  | call j xs =>
    simp only [okS] at h
    simp only [liftedT, subS, pulls_sub A xs _ h.2, Option.map_map]
    rfl
  | cut t p c =>
    simp only [okS] at h
    obtain ⟨h0, h1, h2⟩ := h
    obtain ⟨k1, k2⟩ := sides_okT h1 h2
    simp only [liftedT, subS, sub_sides]
    generalize (P.sides t p c).1 = m at *
    generalize (P.sides t p c).2 = w at *
    cases m with
    | make k xs =>
      simp only [okT] at k1
      simp only [liftedC, subT, pulls_sub A xs _ k1.2.2, Option.map_map]
      congr 1
      funext q
      simp only [Function.comp, sub_join, subT, subT_lift1 w E.length (!P.makes t, t) _ (Nat.le_refl _) k2]
    | var k =>
      simp only [okT] at k1
      simp only [subT, liftedC, Option.map_none, subV0]
      by_cases hk : k < Δ.length
      · rw [List.getElem?_append_left hk] at k1
        obtain ⟨a, a', g1, _, g3, _⟩ := A.at k1
        rw [g1]
        simp only
        cases a with
        | make h xs =>
          have e := plain_none (n := 0) (i := E.length) g3
          rw [Nat.zero_add] at e
          simp only [lift, pullT, Option.map_eq_none_iff] at e
          simp only [lift, liftedC, e, Option.map_none]
        | var k => simp only [lift, Nat.zero_le, if_true, liftedC]
        | _ => rfl
      · rw [List.getElem?_eq_none (by rw [A.len]; omega)]
    | _ => rfl
  | stop n => rfl
  | _ => simp [okS] at h
theorem mapZ_sub {E : List Slot} {g g' : Slot → T → Option T} : ∀ {xs ys : List T} {sl : List Slot}, (∀ s ∈ sl, SlotOk P s) → (∀ s x y, SlotOk P s → okT P (Δ ++ E) s x → g s x = some y → g' s (subT P 0 as 0 s.2 E.length x) = some (subT P 0 as' 0 s.2 E.length y)) → okTs P (Δ ++ E) sl xs → mapZ g sl xs = some ys → mapZ g' sl (subTs P 0 as 0 sl E.length xs) = some (subTs P 0 as' 0 sl E.length ys)
  | [], ys, sl, hs, hg, ho, h => by rw [mapZ_nil h]; simp only [subTs]; unfold mapZ; rfl
  | x :: xs, ys, sl, hs, hg, ho, h => by
    simp only [okTs] at ho
    obtain ⟨s, r, rfl, h1, h2⟩ := ho
    obtain ⟨x', xs', g1, g2, rfl⟩ := mapZ_cons h
    have i := mapZ_sub (fun y m => hs y (List.mem_cons_of_mem _ m)) hg h2 g2
    simp only [subTs]
    unfold mapZ
    simp only [hg _ _ _ (hs s List.mem_cons_self) h1 g1, i]
theorem mapZ_subB {E : List Slot} {g g' : List Slot → T → Option T} : ∀ {xs ys : List T} {sl : List (List Slot)}, (∀ s x y, okS P (Δ ++ E ++ s) x → g s x = some y → g' s (subS P 0 as 0 (E.length + s.length) x) = some (subS P 0 as' 0 (E.length + s.length) y)) → okBs P (Δ ++ E) sl xs → mapZ g sl xs = some ys → mapZ g' sl (subBs P 0 as 0 sl E.length xs) = some (subBs P 0 as' 0 sl E.length ys)
  | [], ys, sl, hg, ho, h => by rw [mapZ_nil h]; simp only [subBs]; unfold mapZ; rfl
  | x :: xs, ys, sl, hg, ho, h => by
    simp only [okBs] at ho
    obtain ⟨s, r, rfl, h1, h2⟩ := ho
    obtain ⟨x', xs', g1, g2, rfl⟩ := mapZ_cons h
    have i := mapZ_subB hg h2 g2
    simp only [subBs]
    unfold mapZ
    simp only [hg _ _ _ h1 g1, i]
/-- the form of what is put together is what the forms are put together to -/
theorem pl_sub (W : PWf P) (A : Args P Δ as as' f0) : ∀ (f : Nat),
    (∀ (E : List Slot) (x x' : T), okS P (Δ ++ E) x → plS P f (as.length + E.length) x = some x' → plS P (f + f0) E.length (subS P 0 as 0 E.length x) = some (subS P 0 as' 0 E.length x')) ∧
    (∀ (E : List Slot) (s : Slot) (x x' : T), SlotOk P s → okT P (Δ ++ E) s x → plT P f (as.length + E.length) s.2 x = some x' → plT P (f + f0) E.length s.2 (subT P 0 as 0 s.2 E.length x) = some (subT P 0 as' 0 s.2 E.length x'))
  | 0 => ⟨fun E x x' _ h => (by cases h), fun E s x x' _ _ h => (by cases h)⟩
  | f + 1 => by
    obtain ⟨i1, i2⟩ := pl_sub W A f
    rw [show f + 1 + f0 = (f + f0) + 1 by omega]
    have ll := A.len
    refine ⟨fun E x x' ho h => ?_, fun E s x x' hs ho h => ?_⟩
    · have q := plS_cases h
      refine plS_of ?_
      have lf := lifted_sub A ho
      cases q with
      | pull _ q y r h1 h2 h3 =>
        obtain ⟨a1, a2, a3⟩ := lifted_okS W ho (by rw [List.length_append, ← ll]; exact h1)
        rw [h1] at lf
        rw [sub_mkCut]
        refine .pull _ (q.1, subT P 0 as 0 q.1.2 E.length q.2.1, subS P 0 as 0 (E.length + 1) q.2.2) _ _ lf (i2 E q.1 _ _ a1 a2 h2) ?_
        have := i1 (E ++ [q.1]) q.2.2 r (by simpa using a3) (by simpa [Nat.add_assoc] using h3)
        simpa using this
      | cut t p c p' c' h1 h2 h3 =>
        rw [h1] at lf
        simp only [okS] at ho
        simp only [subS] at lf ⊢
        exact .cut t _ _ _ _ lf (i2 E (true, t) _ _ ho.1 ho.2.1 h2) (i2 E (false, t) _ _ ho.1 ho.2.2 h3)
      | call j xs ys h1 h2 =>
        rw [h1] at lf
        simp only [okS] at ho
        simp only [subS] at lf ⊢
        exact .call j _ _ lf (mapZ_sub (W.par j) (fun s x y hs hx hy => i2 E s x y hs hx hy) ho.2 h2)
      | other _ h1 h2 h3 =>
        cases x with
        | cut t p c => exact absurd rfl (h2 t p c)
        | call j xs => exact absurd rfl (h3 j xs)
        | stop n => exact .other _ rfl (fun t p c e => by simp [subS] at e) (fun j xs e => by simp [subS] at e)
        | _ => simp [okS] at ho
    · have q := plT_cases h
      cases x with
      | var k =>
        have e : x' = .var k := by cases q with | other _ h1 h2 h3 => rfl
        subst e
        simp only [okT] at ho
        simp only [subT, subV0]
        by_cases hk : k < Δ.length
        · rw [List.getElem?_append_left hk] at ho
          obtain ⟨a, a', g1, g2, g3, g4⟩ := A.at ho
          rw [g1, g2]
          simp only
          have := (pl_lift (P := P) (i := E.length) f0).2 0 s.2 a a' g4
          rw [Nat.zero_add] at this
          exact plT_le this (by omega)
        · rw [List.getElem?_eq_none (by omega), List.getElem?_eq_none (by rw [A.len']; omega), A.len', A.len]
          exact plT_of (.other _ (fun s e => by cases e) (fun h xs e => by cases e) (fun xs e => by cases e))
      | bind y =>
        cases q with
        | bind _ r h1 =>
          refine plT_of ?_
          simp only [okT] at ho
          simp only [subT]
          refine .bind _ _ ?_
          have := i1 (E ++ [(!s.1, s.2)]) y r (by simpa using ho) (by simpa [Nat.add_assoc] using h1)
          simpa using this
        | other _ h1 h2 h3 => exact absurd rfl (h1 y)
      | make k xs =>
        cases q with
        | make _ _ ys h1 =>
          refine plT_of ?_
          simp only [okT] at ho
          simp only [subT]
          exact .make k _ _ (mapZ_sub W.shape (fun s x y hs hx hy => i2 E s x y hs hx hy) ho.2.2 h1)
        | other _ h1 h2 h3 => exact absurd rfl (h2 k xs)
      | mtch xs =>
        cases q with
        | mtch _ ys h1 =>
          refine plT_of ?_
          simp only [okT] at ho
          simp only [subT]
          refine .mtch _ _ (mapZ_subB (fun sh x y hx hy => ?_) ho.2 h1)
          have := i1 (E ++ sh) x y (by simpa using hx) (by simpa [Nat.add_assoc] using hy)
          simpa using this
        | other _ h1 h2 h3 => exact absurd rfl (h3 xs)
      | _ => simp [okT] at ho
end
end Ap

end
section
set_option linter.all false
set_option maxRecDepth 100000
set_option maxHeartbeats 1000000
/-! A step, and the plain forms. -/
namespace Ap
open Ev
/-- the program of the plain forms -/
structure Forms (P Q : Prog) (fb : Nat) : Prop where
  hd : Q.decls = P.decls
  hp : ∀ j, Q.params j = P.params j
  hl : Q.defs.length = P.defs.length
  hb : ∀ j, j < P.defs.length → plS P fb (P.params j).length (P.body j) = some (Q.body j)
section
variable {P Q : Prog} {fb : Nat}
theorem lifted_mkCut {m : Nat} {s : Slot} {y r : T} (h : s.1 = P.makes s.2) : liftedT P m (mkCut s (.bind y) r) = none := by
  obtain ⟨b, t⟩ := s
  simp only at h
  subst h
  unfold mkCut
  cases hb : P.makes t <;> simp [liftedT, Prog.sides, hb, liftedC]
theorem form_third {n f : Nat} {s s' z : T} (h : thirdT P n s = some s') (hz : plS P f n s = some z) : ∃ g, plS P g n s' = some z := by
  rw [thirdT_lifted] at h
  obtain ⟨q, h1, rfl⟩ := Option.map_eq_some_iff.mp h
  cases f with
  | zero => cases hz
  | succ f =>
    have c := plS_cases hz
    cases c with
    | pull _ q' x r e1 e2 e3 =>
      rw [h1] at e1
      injection e1 with e1
      subst e1
      obtain ⟨⟨y, hy⟩, hm⟩ := lifted_bind h1
      have ln := lifted_mkCut (P := P) (m := n) (y := y) (r := q.2.2) hm
      rw [hy] at e2
      refine ⟨f + 2, plS_of ?_⟩
      rw [hy]
      obtain ⟨⟨b, t⟩, z⟩ := q
      have b1 : plT P (f + 1) n t (.bind y) = some x := plT_mono e2 1
      have b2 : plT P (f + 1) n t (.bind z.2) = some (.bind r) := plT_of (.bind _ _ e3)
      cases b
      · exact .cut t _ _ _ _ ln b2 b1
      · exact .cut t _ _ _ _ ln b1 b2
    | cut t p c p' c' e1 e2 e3 => rw [h1] at e1; cases e1
    | call j xs ys e1 e2 => rw [h1] at e1; cases e1
    | other _ e1 e2 e3 => rw [h1] at e1; cases e1
theorem one_args {s : Slot} {a a' : T} {f : Nat} (h1 : okT P [] s a) (h2 : isPlain P s a = true) (h3 : plT P f 0 s.2 a = some a') : Args P [s] [a] [a'] f := by
  refine ⟨one_ok h1, by simp [arePlain, h2], ?_⟩
  show mapZ _ [s] [a] = _
  unfold mapZ
  simp only [h3]
  unfold mapZ
  rfl
theorem sub_empty {Δ : List Slot} {as as' : List T} {f0 f : Nat} (W : PWf P) (A : Args P Δ as as' f0) {x x' : T} (ho : okS P Δ x) (h : plS P f Δ.length x = some x') : plS P (f + f0) 0 (subS P 0 as 0 0 x) = some (subS P 0 as' 0 0 x') := by
  have := (pl_sub W A f).1 [] x x' (by simpa using ho) (by rw [A.len]; simpa using h)
  simpa using this
theorem third_none {n : Nat} {s : T} : thirdT P n s = none ↔ liftedT P n s = none := by
  rw [thirdT_lifted, Option.map_eq_none_iff]
theorem form_reduced (W : PWf P) (F : Forms P Q fb) {f : Nat} {s y z : T} (ho : okS P [] s) (h3 : thirdT P 0 s = none) (hy : reducedT P 0 s = some y) (hz : plS P f 0 s = some z) : ∃ g z', plS P g 0 y = some z' ∧ reducedT Q 0 z = some z' := by
  rw [third_none] at h3
  cases f with
  | zero => cases hz
  | succ f =>
    have cs := plS_cases hz
    cases cs with
    | pull _ q' x r e1 e2 e3 => rw [h3] at e1; cases e1
    | call j xs ys e1 e2 =>
      simp only [okS] at ho
      simp only [reducedT] at hy ⊢
      split at hy
      · rename_i hp
        injection hy with hy
        subst hy
        have A : Args P (P.params j) xs ys f := ⟨ho.2, hp, e2⟩
        refine ⟨_, _, sub_empty W A (W.bod j ho.1) (F.hb j ho.1), ?_⟩
        rw [F.hp, arePlain_head F.hd, pls_plain e2, hp, if_pos rfl, subS_head F.hd F.hp]
      · cases hy
    | cut t p c p' c' e1 e2 e3 =>
      simp only [okS] at ho
      obtain ⟨h0, h1, h2⟩ := ho
      obtain ⟨k1, k2⟩ := sides_okT h1 h2
      obtain ⟨g1, g2⟩ := plSides e2 e3
      simp only [reducedT] at hy ⊢
      rw [sides_head F.hd]
      generalize (P.sides t p c).1 = m at *
      generalize (P.sides t p c).2 = w at *
      generalize (P.sides t p' c').1 = m' at *
      generalize (P.sides t p' c').2 = w' at *
      have wp : isPlain P (!P.makes t, t) w = true := by
        rcases taker_is k2 with ⟨y0, rfl⟩ | ⟨ss, rfl⟩
        · simp only [isPlain]
          cases P.makes t <;> rfl
        · rfl
      have hmk : Q.makes t = P.makes t := makes_head F.hd t
      cases f with
      | zero => cases g1
      | succ f =>
        rcases maker_is k1 with ⟨y0, rfl⟩ | ⟨k, xs, rfl⟩
        · simp only [reducedC] at hy
          injection hy with hy
          subst hy
          have c1 := plT_cases g1
          cases c1 with
          | bind _ y1 e4 =>
            have A := one_args (s := (!P.makes t, t)) k2 wp g2
            simp only [okT] at k1
            refine ⟨_, _, sub_empty W A (by simpa using k1) (by simpa using e4), ?_⟩
            simp only [reducedC, subS_head F.hd F.hp]
          | other _ q1 q2 q3 => exact absurd rfl (q1 y0)
        · simp only [reducedC] at hy
          have c1 := plT_cases g1
          cases c1 with
          | make _ _ ys e4 =>
            split at hy
            · rename_i hp
              have hp' : isPlain Q (Q.makes t, t) (.make k ys) = true := by
                rw [hmk, isPlain_head F.hd]
                rw [pl_plain (f + 1) 0 (P.makes t, t) _ _ g1]
                exact hp
              simp only [reducedC, hp', if_true]
              rcases taker_is k2 with ⟨y0, rfl⟩ | ⟨ss, rfl⟩
              · simp only [Option.some.injEq] at hy
                subst hy
                have c2 := plT_cases g2
                cases c2 with
                | bind _ y1 e5 =>
                  have A := one_args (s := (P.makes t, t)) k1 hp g1
                  simp only [okT] at k2
                  refine ⟨_, _, sub_empty W A (by simpa using k2) (by simpa using e5), ?_⟩
                  simp only [subS_head F.hd F.hp]
                | other _ q1 q2 q3 => exact absurd rfl (q1 y0)
              · have c2 := plT_cases g2
                cases c2 with
                | mtch _ zs e5 =>
                  obtain ⟨y0, h5, rfl⟩ := Option.map_eq_some_iff.mp hy
                  simp only [okT] at k1 k2
                  obtain ⟨s', q1, q2, _⟩ := okBs_mem k2.2 h5
                  have q3 := P.shape_at k1.2.1
                  obtain ⟨y1, q4, q5⟩ := mapZ_get e5 q1 h5
                  rw [q1] at q3
                  injection q3 with q3
                  subst q3
                  have A : Args P (P.shape t k) xs ys f := ⟨k1.2.2, by simpa only [isPlain] using hp, e4⟩
                  refine ⟨_, _, sub_empty W A (by simpa using q2) (by simpa using q5), ?_⟩
                  simp only [q4, Option.map_some, subS_head F.hd F.hp]
                | other _ q1 q2 q3 => exact absurd rfl (q3 ss)
            · cases hy
          | other _ q1 q2 q3 => exact absurd rfl (q2 k xs)
    | other _ e1 e2 e3 =>
      cases s with
      | cut t p c => exact absurd rfl (e2 t p c)
      | call j xs => exact absurd rfl (e3 j xs)
      | _ => simp [reducedT] at hy
theorem Forms.third (F : Forms P Q fb) {f n m : Nat} {s z : T} (hz : plS P f n s = some z) : thirdT Q m z = none := by
  rw [third_none, liftedT_head F.hd F.hp]
  exact pl_third hz
/-- a step of the program, and of the program of the forms -/
theorem form_step (W : PWf P) (F : Forms P Q fb) {f : Nat} {s z : T} {r : Bool × T} (ho : okS P [] s) (hr : stepT P s = some r) (hz : plS P f 0 s = some z) : ∃ g z', plS P g 0 r.2 = some z' ∧ (r.1 = true → z' = z) ∧ (r.1 = false → stepT Q z = some (false, z')) := by
  unfold stepT at hr
  split at hr
  · rename_i x hx
    injection hr with hr
    subst hr
    obtain ⟨g, hg⟩ := form_third hx hz
    exact ⟨g, z, hg, fun _ => rfl, fun h => by cases h⟩
  · rename_i hx
    obtain ⟨y, hy, rfl⟩ := Option.map_eq_some_iff.mp hr
    obtain ⟨g, z', h1, h2⟩ := form_reduced W F ho hx hy hz
    refine ⟨g, z', h1, fun h => (by cases h), fun _ => ?_⟩
    unfold stepT
    rw [F.third hz, h2]
    rfl
end
end Ap

end
section
set_option linter.all false
set_option maxRecDepth 100000
set_option maxHeartbeats 1000000
/-! The law's plain forms. -/
namespace Ap
open Ev
mutual
/-- the binds on the spine of a term -/
def kap : T → Nat
  | .bind _ => 1
  | .make _ as => kaps as
  | _ => 0
def kaps : List T → Nat
  | [] => 0
  | x :: xs => kap x + kaps xs
end
mutual
/-- the longest way through binds within a statement -/
def om : T → Nat
  | .cut _ p c => kap p + kap c + max (iot p) (iot c)
  | .call _ as => kaps as + iots as
  | _ => 0
def iot : T → Nat
  | .bind s => om s
  | .make _ as => iots as
  | .mtch ss => oms ss
  | _ => 0
def iots : List T → Nat
  | [] => 0
  | x :: xs => max (iot x) (iots xs)
def oms : List T → Nat
  | [] => 0
  | x :: xs => max (om x) (oms xs)
end
section
variable {P : Prog}
mutual
theorem kap_lift {b d : Nat} : ∀ x : T, kap (lift b d x) = kap x
  | .var k => by simp only [lift]; split <;> rfl
  | .bind s => rfl
  | .make h as => by simp only [lift, kap, kaps_lift as]
  | .mtch ss => rfl
  | .cut t p c => rfl
  | .call j as => rfl
  | .stop n => rfl
theorem kaps_lift {b d : Nat} : ∀ x : List T, kaps (lifts b d x) = kaps x
  | [] => rfl
  | x :: xs => by simp only [lifts, kaps, kap_lift x, kaps_lift xs]
end
mutual
theorem om_lift {b d : Nat} : ∀ x : T, om (lift b d x) = om x
  | .var k => by simp only [lift]; split <;> rfl
  | .bind s => rfl
  | .make h as => rfl
  | .mtch ss => rfl
  | .cut t p c => by simp only [lift, om, kap_lift, iot_lift p, iot_lift c]
  | .call j as => by simp only [lift, om, kaps_lift, iots_lift as]
  | .stop n => rfl
theorem iot_lift {b d : Nat} : ∀ x : T, iot (lift b d x) = iot x
  | .var k => by simp only [lift]; split <;> rfl
  | .bind s => by simp only [lift, iot, om_lift s]
  | .make h as => by simp only [lift, iot, iots_lift as]
  | .mtch ss => by simp only [lift, iot, oms_lift ss]
  | .cut t p c => rfl
  | .call j as => rfl
  | .stop n => rfl
theorem iots_lift {b d : Nat} : ∀ x : List T, iots (lifts b d x) = iots x
  | [] => rfl
  | x :: xs => by simp only [lifts, iots, iot_lift x, iots_lift xs]
theorem oms_lift {b d : Nat} : ∀ x : List T, oms (lifts b d x) = oms x
  | [] => rfl
  | x :: xs => by simp only [lifts, oms, om_lift x, oms_lift xs]
end
mutual
theorem pull_om {n : Nat} : ∀ (x : T) (s : Slot) (q : Slot × T × T), pullT P n s x = some q → kap q.2.2 + 1 ≤ kap x ∧ iot q.2.2 ≤ iot x ∧ ∃ y, q.2.1 = .bind y ∧ om y ≤ iot x ∧ td y + 1 ≤ td x
  | .bind y, s, q, hq => by
    simp only [pullT] at hq
    split at hq
    · exact absurd hq (by simp)
    · injection hq with hq
      subst hq
      exact ⟨by simp [kap], by simp [iot], y, rfl, by simp [iot], by simp [td]; omega⟩
  | .make k as, s, q, hq => by
    simp only [pullT] at hq
    obtain ⟨q', h1, rfl⟩ := Option.map_eq_some_iff.mp hq
    obtain ⟨a1, a2, y, a3, a4, a5⟩ := pulls_om as _ q' h1
    exact ⟨by simpa only [kap] using a1, by simpa only [iot] using a2, y, a3, by simpa only [iot] using a4, by simp only [td]; omega⟩
  | .var _, s, q, hq => by simp [pullT] at hq
  | .mtch _, s, q, hq => by simp [pullT] at hq
  | .cut _ _ _, s, q, hq => by simp [pullT] at hq
  | .call _ _, s, q, hq => by simp [pullT] at hq
  | .stop _, s, q, hq => by simp [pullT] at hq
theorem pulls_om {n : Nat} : ∀ (xs : List T) (sl : List Slot) (q : Slot × T × List T), pullTs P n sl xs = some q → kaps q.2.2 + 1 ≤ kaps xs ∧ iots q.2.2 ≤ iots xs ∧ ∃ y, q.2.1 = .bind y ∧ om y ≤ iots xs ∧ td y + 1 ≤ tds xs
  | [], sl, q, hq => by simp [pullTs] at hq
  | x :: xs, [], q, hq => by simp [pullTs] at hq
  | x :: xs, s :: r, q, hq => by
    simp only [pullTs] at hq
    split at hq
    · rename_i q' h3
      injection hq with hq
      subst hq
      obtain ⟨a1, a2, y, a3, a4, a5⟩ := pull_om x s q' h3
      simp only [kaps, iots, tds, kaps_lift, iots_lift]
      exact ⟨by omega, by omega, y, a3, by omega, by omega⟩
    · obtain ⟨q', h3, rfl⟩ := Option.map_eq_some_iff.mp hq
      obtain ⟨a1, a2, y, a3, a4, a5⟩ := pulls_om xs r q' h3
      simp only [kaps, iots, tds, kap_lift, iot_lift]
      exact ⟨by omega, by omega, y, a3, by omega, by omega⟩
end
theorem om_sides {t : Nat} {p c : T} : om (.cut t p c) = kap (P.sides t p c).1 + kap (P.sides t p c).2 + max (iot (P.sides t p c).1) (iot (P.sides t p c).2) ∧ td (.cut t p c) = 1 + max (td (P.sides t p c).1) (td (P.sides t p c).2) := by
  unfold Prog.sides
  split
  · exact ⟨rfl, rfl⟩
  · refine ⟨?_, ?_⟩
    · simp only [om]; omega
    · simp only [td]; omega
theorem om_join {t : Nat} {m w : T} : om (P.join t m w) = kap m + kap w + max (iot m) (iot w) := by
  unfold Prog.join
  split <;> simp only [om] <;> omega
theorem lifted_om {n : Nat} {s : T} {q : Slot × T × T} (h : liftedT P n s = some q) : om q.2.2 + 1 ≤ om s ∧ td q.2.2 ≤ td s ∧ ∃ y, q.2.1 = .bind y ∧ om y + 1 ≤ om s ∧ td y + 2 ≤ td s := by
  cases s with
  | call j xs =>
    simp only [liftedT] at h
    obtain ⟨q, h1, rfl⟩ := Option.map_eq_some_iff.mp h
    obtain ⟨a1, a2, y, a3, a4, a5⟩ := pulls_om xs _ q h1
    have := td_pullTs xs _ q h1
    simp only [om, td]
    exact ⟨by omega, by omega, y, a3, by omega, by omega⟩
  | cut t p c =>
    obtain ⟨s1, s2⟩ := om_sides (P := P) (t := t) (p := p) (c := c)
    rw [s1, s2]
    simp only [liftedT] at h
    generalize (P.sides t p c).1 = m at *
    generalize (P.sides t p c).2 = w at *
    cases m with
    | make k as =>
      simp only [liftedC] at h
      obtain ⟨q, h3, rfl⟩ := Option.map_eq_some_iff.mp h
      obtain ⟨a1, a2, y, a3, a4, a5⟩ := pulls_om as _ q h3
      have := td_pullTs as _ q h3
      simp only [om_join, td_join, kap, iot, td, kap_lift, iot_lift, td_lift]
      exact ⟨by omega, by omega, y, a3, by omega, by omega⟩
    | _ => simp [liftedC] at h
  | _ => simp [liftedT] at h
mutual
theorem kap_sz (W : PWf P) : ∀ (x : T) (s : Slot) (ctx : List Slot), okT P ctx s x → 5 * kap x ≤ 2 * sz x + 1
  | .var k, s, ctx, h => by simp [kap]
  | .bind y, s, ctx, h => by simp only [kap, sz]; have := sz_pos y; omega
  | .make k as, s, ctx, h => by
    simp only [okT] at h
    have := kaps_sz W as _ ctx h.2.2
    have l := okTs_len h.2.2
    have l3 := W.shl s.2 k
    simp only [kap, sz]
    omega
  | .mtch ss, s, ctx, h => by simp [kap]
  | .cut _ _ _, s, ctx, h => by simp [kap]
  | .call _ _, s, ctx, h => by simp [kap]
  | .stop _, s, ctx, h => by simp [kap]
theorem kaps_sz (W : PWf P) : ∀ (xs : List T) (sl ctx : List Slot), okTs P ctx sl xs → 5 * kaps xs ≤ 2 * szs xs + xs.length
  | [], sl, ctx, h => by simp [kaps]
  | x :: xs, sl, ctx, h => by
    simp only [okTs] at h
    obtain ⟨s, r, rfl, h1, h2⟩ := h
    have := kap_sz W x s ctx h1
    have := kaps_sz W xs r ctx h2
    simp only [kaps, szs, List.length_cons]
    omega
end
mutual
theorem om_sz (W : PWf P) : ∀ (x : T) (ctx : List Slot), okS P ctx x → 5 * om x ≤ 2 * sz x + 2 * td x
  | .cut t p c, ctx, h => by
    simp only [okS] at h
    have a := iot_sz W p _ ctx h.2.1
    have b := iot_sz W c _ ctx h.2.2
    have a' := kap_sz W p _ ctx h.2.1
    have b' := kap_sz W c _ ctx h.2.2
    simp only [om, sz, td]
    omega
  | .call j xs, ctx, h => by
    simp only [okS] at h
    have a := iots_sz W xs _ ctx h.2
    have l := okTs_len h.2
    have l3 := W.pal j
    simp only [om, sz, td]
    omega
  | .stop k, ctx, h => by simp [om]
  | .var _, ctx, h => by simp [om]
  | .bind _, ctx, h => by simp [om]
  | .make _ _, ctx, h => by simp [om]
  | .mtch _, ctx, h => by simp [om]
theorem iot_sz (W : PWf P) : ∀ (x : T) (s : Slot) (ctx : List Slot), okT P ctx s x → 5 * (kap x + iot x) ≤ 2 * sz x + 2 * td x + 1
  | .var k, s, ctx, h => by simp [kap, iot]
  | .bind y, s, ctx, h => by
    simp only [okT] at h
    have := om_sz W y _ h
    simp only [kap, iot, sz, td]
    omega
  | .make k as, s, ctx, h => by
    simp only [okT] at h
    have := iots_sz W as _ ctx h.2.2
    have l := okTs_len h.2.2
    have l3 := W.shl s.2 k
    simp only [kap, iot, sz, td]
    omega
  | .mtch ss, s, ctx, h => by
    simp only [okT] at h
    have := oms_sz W ss _ ctx h.2
    simp only [kap, iot, sz, td]
    omega
  | .cut _ _ _, s, ctx, h => by simp [okT] at h
  | .call _ _, s, ctx, h => by simp [okT] at h
  | .stop _, s, ctx, h => by simp [okT] at h
theorem iots_sz (W : PWf P) : ∀ (xs : List T) (sl ctx : List Slot), okTs P ctx sl xs → 5 * (kaps xs + iots xs) ≤ 2 * szs xs + 2 * tds xs + xs.length
  | [], sl, ctx, h => by simp [kaps, iots]
  | x :: xs, sl, ctx, h => by
    simp only [okTs] at h
    obtain ⟨s, r, rfl, h1, h2⟩ := h
    have a := iot_sz W x s ctx h1
    have b := iots_sz W xs r ctx h2
    have a' := kap_sz W x s ctx h1
    have b' := kaps_sz W xs r ctx h2
    simp only [kaps, iots, szs, tds, List.length_cons]
    omega
theorem oms_sz (W : PWf P) : ∀ (xs : List T) (sh : List (List Slot)) (ctx : List Slot), okBs P ctx sh xs → 5 * oms xs ≤ 2 * szs xs + 2 * tds xs
  | [], sl, ctx, h => by simp [oms]
  | x :: xs, sl, ctx, h => by
    simp only [okBs] at h
    obtain ⟨s, r, rfl, h1, h2⟩ := h
    have a := om_sz W x _ h1
    have b := oms_sz W xs r ctx h2
    simp only [oms, szs, tds]
    omega
end
theorem iots_mem : ∀ {xs : List T} {k : Nat} {x : T}, xs[k]? = some x → iot x ≤ iots xs ∧ td x ≤ tds xs
  | [], k, x, h => by simp at h
  | y :: xs, 0, x, h => by simp at h; subst h; simp only [iots, tds]; omega
  | y :: xs, k + 1, x, h => by
    have := iots_mem (xs := xs) (k := k) (x := x) (by simpa using h)
    simp only [iots, tds]
    omega
theorem oms_mem : ∀ {xs : List T} {k : Nat} {x : T}, xs[k]? = some x → om x ≤ oms xs ∧ td x ≤ tds xs
  | [], k, x, h => by simp at h
  | y :: xs, 0, x, h => by simp at h; subst h; simp only [oms, tds]; omega
  | y :: xs, k + 1, x, h => by
    have := oms_mem (xs := xs) (k := k) (x := x) (by simpa using h)
    simp only [oms, tds]
    omega
theorem okTs_at {ctx : List Slot} : ∀ {xs : List T} {sl : List Slot} {k : Nat} {s : Slot} {x : T}, okTs P ctx sl xs → sl[k]? = some s → xs[k]? = some x → okT P ctx s x
  | [], sl, k, s, x, h, h1, h2 => by simp at h2
  | y :: xs, sl, k, s, x, h, h1, h2 => by
    simp only [okTs] at h
    obtain ⟨s', r, rfl, g1, g2⟩ := h
    cases k with
    | zero => simp at h1 h2; subst h1 h2; exact g1
    | succ k => exact okTs_at g2 (by simpa using h1) (by simpa using h2)
theorem okBs_at {ctx : List Slot} : ∀ {xs : List T} {sl : List (List Slot)} {k : Nat} {s : List Slot} {x : T}, okBs P ctx sl xs → sl[k]? = some s → xs[k]? = some x → okS P (ctx ++ s) x
  | [], sl, k, s, x, h, h1, h2 => by simp at h2
  | y :: xs, sl, k, s, x, h, h1, h2 => by
    simp only [okBs] at h
    obtain ⟨s', r, rfl, g1, g2⟩ := h
    cases k with
    | zero => simp at h1 h2; subst h1 h2; exact g1
    | succ k => exact okBs_at g2 (by simpa using h1) (by simpa using h2)
end
theorem rows_loop {α : Type} {g : α → T → Option T} {step : D → List D → LH → R (Step (List D) Unit)} {sl0 : List α} {xs0 : List T} : ∀ (xs : List T) (sl : List α) (k : Nat), sl0.drop k = sl → xs0.drop k = xs → xs.length = sl.length →
    (∀ (j : Nat) (s : α) (x : T), sl0[j]? = some s → xs0[j]? = some x → ∀ (acc : List D) (L : LH), acc.length ≤ 1000 → ∃ y G, g s x = some y ∧ step (.int (j : Int)) acc L = .ok (.more (acc ++ [enc y])) (L ++ G)) →
    ∀ (acc : List D) (L : LH), acc.length + xs.length ≤ 1000 → ∃ ys G, mapZ g sl xs = some ys ∧ loopI step ((List.range' k xs.length).map fun (i : Nat) => D.int (i : Int)) acc L = .ok (.more (acc ++ encs ys)) (L ++ G)
  | [], sl, k, h1, h2, hl, hs, acc, L, ha => ⟨[], [], by unfold mapZ; rfl, by simp [loopI, encs]⟩
  | x :: xs, [], k, h1, h2, hl, hs, acc, L, ha => by simp at hl
  | x :: xs, s :: r, k, h1, h2, hl, hs, acc, L, ha => by
    simp at hl ha
    obtain ⟨g1, g2⟩ := drop_cons h1
    obtain ⟨g3, g4⟩ := drop_cons h2
    obtain ⟨y, G1, e1, e2⟩ := hs k s x g1 g3 acc L (by omega)
    obtain ⟨ys, G2, e3, e4⟩ := rows_loop xs r (k + 1) g2 g4 hl hs (acc ++ [enc y]) (L ++ G1) (by simp; omega)
    refine ⟨y :: ys, G1 ++ G2, ?_, ?_⟩
    · unfold mapZ
      simp only [e1, e3]
    · rw [List.length_cons, List.range'_succ, List.map_cons, loopI, e2]
      simp only [bind_ok]
      rw [e4]
      simp [encs]
section
variable {cfg : Cfg} (B : Base cfg) {P : Prog}
include B
theorem lplain_bind (h198 : cfg.defs 198 = some Lib._law_plain_term) {n m : Nat} {t : Nat} {y r : T} {L L' : LH} (e : run cfg n 197 [eProg P, enc y, .int ((m + 1 : Nat) : Int)] L = .ok (enc r) L') : run cfg (n + 1) 198 [eProg P, .int (t : Int), enc (.bind y), .int (m : Int)] L = .ok (enc (.bind r)) L' := by
  rw [cast_succ] at e
  rw [run_succ, runDef_of h198 rfl]
  simp [Lib._law_plain_term, enc, e]
theorem law_plain (h197 : cfg.defs 197 = some Lib._law_plain_statement) (h198 : cfg.defs 198 = some Lib._law_plain_term) (W : PWf P) : ∀ (N M : Nat), M ≤ N →
    (∀ (s : T) (ctx : List Slot) (L : LH), okS P ctx s → 3 * om s + 2 * td s + 8 ≤ M → ∃ r G, plS P M ctx.length s = some r ∧ run cfg M 197 [eProg P, enc s, .int (ctx.length : Int)] L = .ok (enc r) (L ++ G)) ∧
    (∀ (x : T) (sl : Slot) (ctx : List Slot) (L : LH), SlotOk P sl → okT P ctx sl x → 3 * iot x + 2 * td x + 9 ≤ M → ∃ r G, plT P M ctx.length sl.2 x = some r ∧ run cfg M 198 [eProg P, .int sl.2, enc x, .int (ctx.length : Int)] L = .ok (enc r) (L ++ G))
  | 0, M, hM => ⟨fun s ctx L _ h => by omega, fun x sl ctx L _ _ h => by omega⟩
  | N + 1, M, hM => by
    have ih := law_plain h197 h198 W N
    refine ⟨fun s ctx L ho hn => ?_, fun x sl ctx L hs ho hn => ?_⟩
    · obtain ⟨m, rfl⟩ : ∃ m, M = m + 1 := ⟨M - 1, by omega⟩
      obtain ⟨i1, i2⟩ := ih m (by omega)
      obtain ⟨G1, e1⟩ := third_ok B W (N := ctx.length) (n := m) (L := L) ho (by have := td_pos s; omega)
      rw [run_succ, runDef_of h197 rfl]
      cases hl : liftedT P ctx.length s with
      | some q =>
        have ht : thirdT P ctx.length s = some (mkCut q.1 q.2.1 q.2.2) := by rw [thirdT_lifted, hl]; rfl
        rw [ht] at e1
        obtain ⟨a1, a2, a3⟩ := lifted_okS W ho hl
        obtain ⟨b1, b2, y, b3, b4, b5⟩ := lifted_om hl
        obtain ⟨_, hmk⟩ := lifted_bind hl
        obtain ⟨⟨b, t⟩, x, rest⟩ := q
        simp only at b1 b2 b3 b4 b5 a1 a2 a3 hmk
        subst b3
        obtain ⟨k, rfl⟩ : ∃ k, m = k + 3 := ⟨m - 3, by omega⟩
        obtain ⟨j1, j2⟩ := ih (k + 1) (by omega)
        have mo := mkCut_ok a1 a2 a3
        simp only [okT] at a2
        have lc : ∀ u : Slot, (ctx ++ [u]).length = ctx.length + 1 := fun u => by simp
        have mt : thirdT P ctx.length (mkCut (b, t) (.bind y) rest) = none := by rw [third_none]; exact lifted_mkCut hmk
        obtain ⟨G2, e2⟩ := third_ok B W (N := ctx.length) (n := k + 2) (L := L ++ G1) mo (by have := td_mkCut (s := (b, t)) (x := .bind y) (y := rest); simp only [td] at this; omega)
        rw [mt] at e2
        cases b with
        | true =>
          obtain ⟨ry, G3, p3, e3⟩ := j1 y _ ((L ++ G1) ++ G2) a2 (by omega)
          obtain ⟨rr, G4, p4, e4⟩ := j1 rest _ (((L ++ G1) ++ G2) ++ G3) a3 (by omega)
          rw [lc] at e3 e4 p3 p4
          have f3 := lplain_bind B h198 (t := t) (y := y) e3
          have f4 := lplain_bind B h198 (t := t) (y := rest) e4
          refine ⟨mkCut (true, t) (.bind ry) rr, G1 ++ (G2 ++ (G3 ++ G4)), plS_of (.pull s _ _ _ hl (plT_of (.bind _ _ (plS_le p3 (by omega)))) (plS_le p4 (by omega))), ?_⟩
          simp [mkCut, enc] at e1 e2 f3 f4
          have q : run cfg (k + 3) 197 [eProg P, enc (.cut t (.bind y) (.bind rest)), .int (ctx.length : Int)] (L ++ G1) = .ok (enc (.cut t (.bind ry) (.bind rr))) (L ++ (G1 ++ (G2 ++ (G3 ++ G4)))) := by
            rw [run_succ, runDef_of h197 rfl]
            simp [Lib._law_plain_statement, enc, e2, f3, f4]
          simp [enc] at q
          simp [Lib._law_plain_statement, e1, mkCut, enc, q]
        | false =>
          obtain ⟨rr, G3, p3, e3⟩ := j1 rest _ ((L ++ G1) ++ G2) a3 (by omega)
          obtain ⟨ry, G4, p4, e4⟩ := j1 y _ (((L ++ G1) ++ G2) ++ G3) a2 (by omega)
          rw [lc] at e3 e4 p3 p4
          have f3 := lplain_bind B h198 (t := t) (y := rest) e3
          have f4 := lplain_bind B h198 (t := t) (y := y) e4
          refine ⟨mkCut (false, t) (.bind ry) rr, G1 ++ (G2 ++ (G3 ++ G4)), plS_of (.pull s _ _ _ hl (plT_of (.bind _ _ (plS_le p4 (by omega)))) (plS_le p3 (by omega))), ?_⟩
          simp [mkCut, enc] at e1 e2 f3 f4
          have q : run cfg (k + 3) 197 [eProg P, enc (.cut t (.bind rest) (.bind y)), .int (ctx.length : Int)] (L ++ G1) = .ok (enc (.cut t (.bind rr) (.bind ry))) (L ++ (G1 ++ (G2 ++ (G3 ++ G4)))) := by
            rw [run_succ, runDef_of h197 rfl]
            simp [Lib._law_plain_statement, enc, e2, f3, f4]
          simp [enc] at q
          simp [Lib._law_plain_statement, e1, mkCut, enc, q]
      | none =>
        have ht : thirdT P ctx.length s = none := by rw [thirdT_lifted, hl]; rfl
        rw [ht] at e1
        cases s with
        | stop k => exact ⟨.stop k, G1, plS_of (.other _ hl (fun t p c e => by cases e) (fun j xs e => by cases e)), by simp [enc] at e1; simp [Lib._law_plain_statement, e1, enc]⟩
        | cut t p c =>
          simp only [okS] at ho
          simp only [om, td] at hn
          obtain ⟨p', G2, p2, e2⟩ := i2 p (true, t) ctx (L ++ G1) ho.1 ho.2.1 (by omega)
          obtain ⟨c', G3, p3, e3⟩ := i2 c (false, t) ctx ((L ++ G1) ++ G2) ho.1 ho.2.2 (by omega)
          refine ⟨.cut t p' c', G1 ++ (G2 ++ G3), plS_of (.cut t p c p' c' hl p2 p3), ?_⟩
          simp [enc] at e1 e2 e3
          simp [Lib._law_plain_statement, e1, enc, e2, e3]
        | call j xs =>
          simp only [okS] at ho
          simp only [om, td] at hn
          have ll := okTs_len ho.2
          have pl := W.pal j
          obtain ⟨d, hd, hd1, hd2⟩ := prog_params B ho.1
          have x1 : ∀ L, idxR L (eProg P) (.int 1) = some (eDefs P.defs) := fun L => rfl
          have x2 : ∀ L, idxR L (eDefs P.defs) (.int (j : Int)) = some (.tup [eSlots (P.params j), enc (P.body j)]) := fun L => by simp [eDefs, hd, eDef, hd1, hd2]
          have src : ∀ L, srcR .rng1 L [.int ((P.params j).length : Int)] = some (.items ((List.range' 0 xs.length).map fun (i : Nat) => D.int (i : Int))) := fun L => by rw [srcR_rng (by omega), List.range_eq_range', ll]
          obtain ⟨ys, G2, p2, e2⟩ := rows_loop (g := fun s x => plT P m ctx.length s.2 x) (sl0 := P.params j) (xs0 := xs) (step := turnC cfg (run cfg m) (calls cfg m).2 (.name 5) [5] [] (.call 198 [.var 0, .idx (.idx (.var 4) (.var 5)) (.int 1), .idx (.idx (.var 1) (.int 2)) (.var 5), .var 2]) [some (eProg P), some (enc (.call j xs)), some (.int (ctx.length : Int)), some .non, some (eSlots (P.params j)), none]) xs (P.params j) 0 rfl rfl ll
            (fun k s x g1 g2 acc L ha => by
              have mm := iots_mem g2
              obtain ⟨y, G, p, e⟩ := i2 x s ctx L (W.par j s (List.mem_of_getElem? g1)) (okTs_at ho.2 g1 g2) (by omega)
              have ha' : acc.length < most := by unfold most; omega
              have g3 : (encs xs)[k]? = some (enc x) := by rw [encs_get, g2]; rfl
              exact ⟨y, G, p, by simp [turnC_def, enc, eSlots, g1, g3, eSlot, e, ha']⟩) [] (L ++ G1) (by simp; omega)
          refine ⟨.call j ys, G1 ++ (G2 ++ [.lst (encs ys)]), plS_of (.call j xs ys hl p2), ?_⟩
          simp [enc, eSlots] at e1 e2
          simp [Lib._law_plain_statement, e1, enc, x1, x2, src, eSlots, e2]
        | _ => simp [okS] at ho
    · obtain ⟨m, rfl⟩ : ∃ m, M = m + 1 := ⟨M - 1, by omega⟩
      obtain ⟨i1, i2⟩ := ih m (by omega)
      obtain ⟨d, hd, hd2⟩ := prog_shapes B hs
      have x0 : ∀ L, idxR L (eProg P) (.int 0) = some (eDecls P.decls) := fun L => rfl
      have x2 : ∀ L, idxR L (eDecls P.decls) (.int (sl.2 : Int)) = some (.tup [.str (if d.1 then 4 else 14), .tup ((P.shapes sl.2).map eSlots)]) := fun L => by simp [eDecls, hd, eDecl, hd2]
      cases x with
      | var k =>
        refine ⟨.var k, [], plT_of (.other _ (fun s e => by cases e) (fun h xs e => by cases e) (fun xs e => by cases e)), ?_⟩
        rw [run_succ, runDef_of h198 rfl]
        simp [Lib._law_plain_term, enc]
      | bind y =>
        simp only [okT] at ho
        simp only [iot, td] at hn
        obtain ⟨r, G, p, e⟩ := i1 y _ L ho (by omega)
        have lc : ∀ u : Slot, (ctx ++ [u]).length = ctx.length + 1 := fun u => by simp
        rw [lc] at p e
        exact ⟨.bind r, G, plT_of (.bind _ _ p), lplain_bind B h198 e⟩
      | make k xs =>
        simp only [okT] at ho
        simp only [iot, td] at hn
        have ll := okTs_len ho.2.2
        have l3 := W.shl sl.2 k
        have sk := P.shape_at ho.2.1
        have src : ∀ L, srcR .rng1 L [.int ((P.shape sl.2 k).length : Int)] = some (.items ((List.range' 0 xs.length).map fun (i : Nat) => D.int (i : Int))) := fun L => by rw [srcR_rng (by omega), List.range_eq_range', ll]
        obtain ⟨ys, G2, p2, e2⟩ := rows_loop (g := fun s x => plT P m ctx.length s.2 x) (sl0 := P.shape sl.2 k) (xs0 := xs) (step := turnC cfg (run cfg m) (calls cfg m).2 (.name 6) [6] [] (.call 198 [.var 0, .idx (.idx (.var 5) (.var 6)) (.int 1), .idx (.idx (.var 2) (.int 2)) (.var 6), .var 3]) [some (eProg P), some (.int (sl.2 : Int)), some (enc (.make k xs)), some (.int (ctx.length : Int)), some (.tup ((P.shapes sl.2).map eSlots)), some (eSlots (P.shape sl.2 k)), none, none]) xs (P.shape sl.2 k) 0 rfl rfl ll
          (fun j s x g1 g2 acc L ha => by
            have mm := iots_mem g2
            obtain ⟨y, G, p, e⟩ := i2 x s ctx L (W.shape s (List.mem_of_getElem? g1)) (okTs_at ho.2.2 g1 g2) (by omega)
            have ha' : acc.length < most := by unfold most; omega
            have g3 : (encs xs)[j]? = some (enc x) := by rw [encs_get, g2]; rfl
            exact ⟨y, G, p, by simp [turnC_def, enc, eSlots, g1, g3, eSlot, e, ha']⟩) [] L (by simp; omega)
        refine ⟨.make k ys, G2 ++ [.lst (encs ys)], plT_of (.make k xs ys p2), ?_⟩
        rw [run_succ, runDef_of h198 rfl]
        simp [enc, eSlots] at e2
        simp [Lib._law_plain_term, enc, x0, x2, sk, src, eSlots, e2]
      | mtch ss =>
        simp only [okT] at ho
        simp only [iot, td] at hn
        have ll := okBs_len ho.2
        have l4 := W.shn sl.2
        have src : ∀ L, srcR .rng1 L [.int ((P.shapes sl.2).length : Int)] = some (.items ((List.range' 0 ss.length).map fun (i : Nat) => D.int (i : Int))) := fun L => by rw [srcR_rng (by omega), List.range_eq_range', ll]
        obtain ⟨ys, G2, p2, e2⟩ := rows_loop (g := fun (s : List Slot) x => plS P m (ctx.length + s.length) x) (sl0 := P.shapes sl.2) (xs0 := ss) (step := turnC cfg (run cfg m) (calls cfg m).2 (.name 7) [7] [] (.call 197 [.var 0, .idx (.idx (.var 2) (.int 1)) (.var 7), .bin .add (.var 3) (.bf .len [.idx (.var 4) (.var 7)])]) [some (eProg P), some (.int (sl.2 : Int)), some (enc (.mtch ss)), some (.int (ctx.length : Int)), some (.tup ((P.shapes sl.2).map eSlots)), none, none, none]) ss (P.shapes sl.2) 0 rfl rfl ll
          (fun j s x g1 g2 acc L ha => by
            have mm := oms_mem g2
            obtain ⟨y, G, p, e⟩ := i1 x (ctx ++ s) L (okBs_at ho.2 g1 g2) (by omega)
            rw [List.length_append] at p e
            rw [Int.natCast_add] at e
            have ha' : acc.length < most := by unfold most; omega
            have g3 : (encs ss)[j]? = some (enc x) := by rw [encs_get, g2]; rfl
            exact ⟨y, G, p, by simp [turnC_def, enc, g1, g3, eSlots, e, ha']⟩) [] L (by simp; omega)
        refine ⟨.mtch ys, G2 ++ [.lst (encs ys)], plT_of (.mtch ss ys p2), ?_⟩
        rw [run_succ, runDef_of h198 rfl]
        simp [enc] at e2
        simp [Lib._law_plain_term, enc, x0, x2, src, e2]
      | _ => simp [okT] at ho
end
end Ap

end
section
set_option linter.all false
set_option maxRecDepth 100000
set_option maxHeartbeats 2000000
/-! The program's plain forms. -/
namespace Ap
open Ev
structure Pl8 (cfg : Cfg) : Prop where
  d71 : cfg.defs 71 = some Lib.Plainer___init__
  d72 : cfg.defs 72 = some Lib.Plainer_statement
  d73 : cfg.defs 73 = some Lib.Plainer_inside
  d74 : cfg.defs 74 = some Lib.Plainer_terms
  d75 : cfg.defs 75 = some Lib.Plainer_term
  d76 : cfg.defs 76 = some Lib.plain_form
  m22 : cfg.mth 6 22 = some 72
  m41 : cfg.mth 6 41 = some 73
  m19 : cfg.mth 6 19 = some 74
  m25 : cfg.mth 6 25 = some 75
  i6 : cfg.ini 6 = some 71
  f15 : cfg.fld 6 15 = true
def PlAt (L : LH) (p w : Nat) : Prop := L[p]? = some (.ins 6 [(15, .ref w)])
theorem PlAt.app {L G : LH} {p w : Nat} (h : PlAt L p w) : PlAt (L ++ G) p w := by
  unfold PlAt at h ⊢
  rw [List.getElem?_append_left (List.getElem?_eq_some_iff.mp h).1]
  exact h
def eAr (q : Slot × T) : D := .tup [eSlot q.1, enc q.2]
def eLf : Option (Slot × T × T) → D
  | some q => .tup [eSlot q.1, enc q.2.1, enc q.2.2]
  | none => .non
def wraps (l : List (Slot × T)) (r : T) : T := l.foldr (fun q z => mkCut q.1 q.2 z) r
/-- the folding of what stood around -/
theorem fold_loop {cfg : Cfg} {n r : Nat} {L : LH} (cut : ∀ (s : Slot) (x y : T), run cfg n 70 [eSlot s, enc x, enc y] L = .ok (enc (mkCut s x y)) L) {q0 q2 q3 q4 : Option D} {al : List (Slot × T)} (h : L[r]? = some (.lst (al.map eAr))) : ∀ (l : List (Slot × T)) (i : Nat) (z : T) (q5 q6 : Option D), al.drop i = l →
    ∃ q5' q6', loopL (turnF cfg (run cfg n) (calls cfg n).2 (.tup [.name 5, .name 6]) [.set 1 (.call 70 [.var 5, .var 6, .var 1])]) r (l.length + 1) i [q0, some (enc z), q2, q3, q4, q5, q6] L = .ok (.more [q0, some (enc (l.foldl (fun z q => mkCut q.1 q.2 z) z)), q2, q3, q4, q5', q6']) L
  | [], i, z, q5, q6, hd => by
    have : (al.map eAr)[i]? = none := List.getElem?_eq_none (by rw [List.length_map]; exact List.drop_eq_nil_iff.mp hd)
    exact ⟨q5, q6, by simp only [loopL, h, this]; rfl⟩
  | q :: l, i, z, q5, q6, hd => by
    obtain ⟨g1, g2⟩ := drop_cons hd
    have g3 : (al.map eAr)[i]? = some (eAr q) := by rw [List.getElem?_map, g1]; rfl
    obtain ⟨q5', q6', e⟩ := fold_loop cut (q0 := q0) (q2 := q2) (q3 := q3) (q4 := q4) h l (i + 1) (mkCut q.1 q.2 z) (some (eSlot q.1)) (some (enc q.2)) g2
    refine ⟨q5', q6', ?_⟩
    rw [List.length_cons, loopL, h]
    simp only
    rw [g3]
    simp [turnF_def, eAr, cut, e]
theorem foldl_rev {l : List (Slot × T)} {r : T} : l.reverse.foldl (fun z q => mkCut q.1 q.2 z) r = wraps l r := by
  unfold wraps
  rw [List.foldl_reverse]
section
variable {cfg : Cfg} (B : Base cfg) (C : Pl8 cfg) {P : Prog} {p w : Nat} {A : LH}
def PSt (cfg : Cfg) (P : Prog) (p w : Nat) (f N : Nat) : Prop := ∀ (s r : T) (ctx : List Slot) (L : LH), okS P ctx s → plS P f ctx.length s = some r → PlAt L p w → WAt L w P → 3 * td s + 10 ≤ N → ∃ G, run cfg N 72 [.ref p, enc s, .int (ctx.length : Int)] L = .ok (enc r) (L ++ G)
def PTm (cfg : Cfg) (P : Prog) (p w : Nat) (f N : Nat) : Prop := ∀ (x r : T) (sl : Slot) (ctx : List Slot) (L : LH), SlotOk P sl → okT P ctx sl x → plT P f ctx.length sl.2 x = some r → PlAt L p w → WAt L w P → 3 * td x + 10 ≤ N → ∃ G, run cfg N 75 [.ref p, .int (sl.2 : Int), enc x, .int (ctx.length : Int)] L = .ok (enc r) (L ++ G)
include B C
omit C in
theorem lifted_run (W : PWf P) {L : LH} {ctx : List Slot} {n : Nat} {s : T} (hw : WAt L w P) (ho : okS P ctx s) (hn : 2 * td s + 7 ≤ n) (hn2 : n ≤ 1000) : ∃ G, run cfg n 69 [.ref w, enc s, .int (ctx.length : Int)] L = .ok (eLf (liftedT P ctx.length s)) (L ++ G) := by
  obtain ⟨G, e⟩ := lifted_ok B W hw ho hn hn2
  refine ⟨G, ?_⟩
  rw [e]
  cases liftedT P ctx.length s <;> rfl
theorem plainer_terms {f N : Nat} (ih : PTm cfg P p w f N) {ctx : List Slot} : ∀ (xs ys : List T) (sl : List Slot) (acc : List D) (L : LH) {r0 r1 r2 r3 : Option D}, okTs P ctx sl xs → (∀ s ∈ sl, SlotOk P s) → plTs P f ctx.length sl xs = some ys → PlAt L p w → WAt L w P → 3 * tds xs + 10 ≤ N → acc.length + xs.length ≤ 1000 →
    ∃ G, loopI (turnC cfg (run cfg N) (calls cfg N).2 (.tup [.name 4, .name 5]) [4, 5] [] (.mth (.var 0) 25 [.idx (.var 4) (.int 1), .var 5, .var 3]) [some (.ref p), r1, r2, some (.int (ctx.length : Int)), none, none]) (pairs (sl.map eSlot) (encs xs)) acc L = .ok (.more (acc ++ encs ys)) (L ++ G)
  | [], ys, sl, acc, L, r0, r1, r2, r3, ho, hs, hp, hP, hW, hn, ha => by
    simp only [okTs] at ho
    subst ho
    rw [mapZ_nil hp]
    exact ⟨[], by simp [pairs, encs, loopI]⟩
  | x :: xs, ys, sl, acc, L, r0, r1, r2, r3, ho, hs, hp, hP, hW, hn, ha => by
    simp only [okTs] at ho
    obtain ⟨s, r, rfl, h1, h2⟩ := ho
    obtain ⟨y, ys', p1, p2, rfl⟩ := mapZ_cons hp
    simp only [tds] at hn
    simp at ha
    obtain ⟨G1, e1⟩ := ih x y s ctx L (hs s List.mem_cons_self) h1 p1 hP hW (by omega)
    obtain ⟨G2, e2⟩ := plainer_terms ih xs ys' r (acc ++ [enc y]) (L ++ G1) (r0 := r0) (r1 := r1) (r2 := r2) (r3 := r3) h2 (fun y m => hs y (List.mem_cons_of_mem _ m)) p2 hP.app hW.app (by omega) (by simp; omega)
    have ha' : acc.length < most := by unfold most; omega
    refine ⟨G1 ++ G2, ?_⟩
    have hP' := hP
    unfold PlAt at hP'
    simp only [List.map_cons, encs, pairs, loopI]
    simp at e2
    simp [turnC_def, hP', C.m25, eSlot, e1, ha', e2]
theorem plainer_termsF {f N : Nat} (ih : PTm cfg P p w f N) {ctx sl : List Slot} {xs ys : List T} {L : LH} (ho : okTs P ctx sl xs) (hs : ∀ s ∈ sl, SlotOk P s) (hl : sl.length ≤ 3) (hp : plTs P f ctx.length sl xs = some ys) (hP : PlAt L p w) (hW : WAt L w P) (hn : 3 * tds xs + 10 ≤ N) : ∃ G, run cfg (N + 1) 74 [.ref p, eSlots sl, .tup (encs xs), .int (ctx.length : Int)] L = .ok (.tup (encs ys)) (L ++ G) := by
  have ll := okTs_len ho
  obtain ⟨G, e⟩ := plainer_terms B C ih xs ys sl [] L (r0 := none) (r1 := some (eSlots sl)) (r2 := some (.tup (encs xs))) (r3 := none) ho hs hp hP hW hn (by simp; omega)
  rw [run_succ, runDef_of C.d74 rfl]
  refine ⟨G ++ [.lst (encs ys)], ?_⟩
  simp [eSlots] at e
  simp [Lib.Plainer_terms, eSlots, e]
theorem plainer_inside {f N : Nat} (W : PWf P) (ih : ∀ M, M ≤ N + 1 → PTm cfg P p w f M) {ctx : List Slot} {s r : T} {L : LH} (ho : okS P ctx s) (hl : liftedT P ctx.length s = none) (hp : plS P (f + 1) ctx.length s = some r) (hP : PlAt L p w) (hW : WAt L w P) (hn : 3 * td s + 7 ≤ N) : ∃ G, run cfg (N + 2) 73 [.ref p, enc s, .int (ctx.length : Int)] L = .ok (enc r) (L ++ G) := by
  have hP' := hP
  have hW' := hW
  unfold PlAt at hP'
  unfold WAt at hW'
  have q := plS_cases hp
  rw [run_succ, runDef_of C.d73 rfl]
  cases q with
  | pull _ q x r h1 h2 h3 => rw [hl] at h1; cases h1
  | cut t p0 c p' c' h1 h2 h3 =>
    simp only [okS] at ho
    simp only [td] at hn
    obtain ⟨G1, e1⟩ := ih (N + 1) (by omega) p0 p' (true, t) ctx L ho.1 ho.2.1 h2 hP hW (by omega)
    obtain ⟨G2, e2⟩ := ih (N + 1) (by omega) c c' (false, t) ctx (L ++ G1) ho.1 ho.2.2 h3 hP.app hW.app (by omega)
    refine ⟨G1 ++ G2, ?_⟩
    have hP2 := hP.app (G := G1)
    unfold PlAt at hP2
    simp at e1 e2
    simp [Lib.Plainer_inside, enc, hP', hP2, C.m25, e1, e2]
  | call j xs ys h1 h2 =>
    simp only [okS] at ho
    simp only [td] at hn
    have pk := params_ok B (n := N) hW ho.1
    obtain ⟨G, e⟩ := plainer_termsF B C (ih N (by omega)) ho.2 (W.par j) (W.pal j) h2 hP hW (by omega)
    refine ⟨G, ?_⟩
    simp [Lib.Plainer_inside, enc, hP', hW', C.m19, C.f15, B.m0_21, pk, e]
  | other _ h1 h2 h3 =>
    cases s with
    | cut t p c => exact absurd rfl (h2 t p c)
    | call j xs => exact absurd rfl (h3 j xs)
    | stop k => exact ⟨[], by simp [Lib.Plainer_inside, enc]⟩
    | _ => simp [okS] at ho
theorem pl_loop {f N : Nat} (W : PWf P) (ih : PTm cfg P p w f N) (hN : N ≤ 1000) (hP : PlAt A p w) (hW : WAt A w P) : ∀ (g k : Nat) (ctx : List Slot) (s r : T) (acc : List (Slot × T)) (X : LH) (r5 r6 : Option D), g ≤ f + 1 → g + 1 ≤ k → okS P ctx s → plS P g ctx.length s = some r → 3 * td s + 9 ≤ N → acc.length + g ≤ 10000 →
    ∃ acc' ctx' s' r' g' X' r5' r6', loopW (evT cfg (run cfg N) (calls cfg N).2 (.isn true (.var 3))) (evB cfg (run cfg N) (calls cfg N).2 [.setT (.tup [.name 5, .name 6, .name 1]) (.var 3), .expr (.bm .append (.var 4) [.tup [.var 5, .mth (.var 0) 25 [.idx (.var 5) (.int 1), .var 6, .var 2]]]), .aug 2 .add (.int 1), .set 3 (.call 69 [.fld (.var 0) 15, .var 1, .var 2])]) k
        [some (.ref p), some (enc s), some (.int (ctx.length : Int)), some (eLf (liftedT P ctx.length s)), some (.ref A.length), r5, r6] (A ++ .lst (acc.map eAr) :: X)
      = .ok (.nx [some (.ref p), some (enc s'), some (.int ((List.length ctx' : Nat) : Int)), some .non, some (.ref A.length), r5', r6']) (A ++ .lst ((acc ++ acc').map eAr) :: X') ∧ okS P ctx' s' ∧ liftedT P ctx'.length s' = none ∧ td s' ≤ td s ∧ g' ≤ f ∧ plS P (g' + 1) ctx'.length s' = some r' ∧ r = wraps acc' r'
  | 0, k, ctx, s, r, acc, X, r5, r6, h1, h2, ho, hp, hn, ha => by cases hp
  | g + 1, k, ctx, s, r, acc, X, r5, r6, h1, h2, ho, hp, hn, ha => by
    obtain ⟨k, rfl⟩ : ∃ j, k = j + 1 := ⟨k - 1, by omega⟩
    cases hl : liftedT P ctx.length s with
    | none =>
      refine ⟨[], ctx, s, r, g, X, r5, r6, ?_, ho, hl, Nat.le_refl _, by omega, hp, rfl⟩
      rw [loopW]
      simp [eLf]
    | some q =>
      have c := plS_cases hp
      cases c with
      | pull _ q' x rr e1 e2 e3 =>
        rw [hl] at e1
        injection e1 with e1
        subst e1
        obtain ⟨a1, a2, a3⟩ := lifted_okS W ho hl
        obtain ⟨b1, b2, y, b3, b4, b5⟩ := lifted_om hl
        have tx : td q.2.1 + 1 ≤ td s := by rw [b3]; simp only [td]; omega
        obtain ⟨G1, f1⟩ := ih q.2.1 x q.1 ctx (A ++ .lst (acc.map eAr) :: X) a1 a2 (plT_le e2 (by omega)) hP.app hW.app (by omega)
        have lc : (ctx ++ [q.1]).length = ctx.length + 1 := by simp
        obtain ⟨G2, f2⟩ := lifted_run B W (n := N) (ctx := ctx ++ [q.1]) (L := A ++ .lst ((acc ++ [(q.1, x)]).map eAr) :: (X ++ G1)) hW.app a3 (by omega) hN
        obtain ⟨acc', ctx', s', r', g', X', r5', r6', i1, i2, i3, i4, i5, i6, i7⟩ := pl_loop W ih hN hP hW g k (ctx ++ [q.1]) q.2.2 rr (acc ++ [(q.1, x)]) (X ++ G1 ++ G2) (some (eSlot q.1)) (some (enc q.2.1)) (by omega) (by omega) a3 (by rw [lc]; exact e3) (by omega) (by simp; omega)
        refine ⟨(q.1, x) :: acc', ctx', s', r', g', X', r5', r6', ?_, i2, i3, by omega, i5, i6, by rw [i7]; rfl⟩
        have hP' := fun X : LH => hP.app (G := X)
        unfold PlAt at hP'
        have ha' : acc.length < most := by unfold most; omega
        rw [loopW]
        simp [eAr] at f1 f2 i1
        simp [eLf, hP', C.m25, C.f15, eSlot] at f1 f2 i1 ⊢
        simp [f1, bmOk, bmR, at_end, set_end, ha', augI, C.f15, f2, i1, eAr, eSlot, hP']
      | cut t p c p' c' e1 e2 e3 => rw [hl] at e1; cases e1
      | call j xs ys e1 e2 => rw [hl] at e1; cases e1
      | other _ e1 e2 e3 => rw [hl] at e1; cases e1
theorem plainer_st {f N : Nat} (W : PWf P) (ihT : ∀ M, M ≤ N → PTm cfg P p w f M) (hf : f ≤ 9000) (hN : N ≤ 999) : PSt cfg P p w (f + 1) (N + 1) := by
  intro s r ctx L ho hp hP hW hn
  obtain ⟨N, rfl⟩ : ∃ M, N = M + 2 := ⟨N - 2, by have := td_pos s; omega⟩
  obtain ⟨G1, e1⟩ := lifted_run B W (n := N + 2) (ctx := ctx) (s := s) hW ho (by omega) (by omega)
  obtain ⟨acc, ctx', s', r', g', X', r5, r6, e2, o2, l2, t2, g2, p2, w2⟩ := pl_loop B C (A := L ++ G1) (f := f) (N := N + 2) W (ihT (N + 2) (Nat.le_refl _)) (by omega) hP.app hW.app (f + 1) turns ctx s r [] [] none none (Nat.le_refl _) (by unfold turns; omega) ho hp (by omega) (by simp; omega)
  obtain ⟨G3, e3⟩ := plainer_inside B C (f := f) (N := N) W (fun M hM => ihT M (by omega)) (L := (L ++ G1) ++ .lst (acc.map eAr) :: X') o2 l2 (plS_le p2 (by omega)) hP.app.app hW.app.app (by omega)
  have cut : ∀ (s : Slot) (x y : T) (L : LH), run cfg (N + 2) 70 [eSlot s, enc x, enc y] L = .ok (enc (mkCut s x y)) L := fun s x y L => cutof_ok B
  obtain ⟨q5, q6, e4⟩ := fold_loop (cfg := cfg) (n := N + 2) (r := (((L ++ G1) ++ .lst (acc.map eAr) :: X') ++ G3).length) (L := (((L ++ G1) ++ .lst (acc.map eAr) :: X') ++ G3) ++ [.lst ((acc.reverse).map eAr)]) (fun s x y => cut s x y _) (q0 := some (.ref p)) (q2 := some (.int ((List.length ctx' : Nat) : Int))) (q3 := some .non) (q4 := some (.ref (L ++ G1).length)) (al := acc.reverse) (by simp only [List.getElem?_concat_length]) acc.reverse 0 r' r5 r6 rfl
  rw [foldl_rev, ← w2] at e4
  rw [run_succ, runDef_of C.d72 rfl]
  refine ⟨G1 ++ .lst (acc.map eAr) :: (X' ++ (G3 ++ [.lst ((acc.reverse).map eAr)])), ?_⟩
  have hPu := fun X : LH => hP.app (G := X)
  have hP0 := hP
  unfold PlAt at hPu hP0
  simp at e1 e2 e3 e4
  simp [Lib.Plainer_statement, hP0, C.f15, e1, e2, hPu, C.m41, e3, loopV, e4]
end
end Ap

end
section
set_option linter.all false
set_option maxRecDepth 100000
set_option maxHeartbeats 2000000
/-! The program's plain form, whole. -/
namespace Ap
open Ev
/-- the program of the plain forms -/
def plP (P : Prog) (fb : Nat) : Prog := ⟨P.decls, P.defs.map fun d => (d.1, (plS P fb d.1.length d.2).getD d.2)⟩
theorem plP_forms {P : Prog} {fb : Nat} (h : ∀ d ∈ P.defs, ∃ r, plS P fb d.1.length d.2 = some r) : Forms P (plP P fb) fb where
  hd := rfl
  hp := fun j => by rw [params_map, params_map]; unfold plP; simp [Function.comp_def]
  hl := by unfold plP; simp
  hb := fun j hj => by
    have hg : P.defs[j]? = some P.defs[j] := List.getElem?_eq_getElem hj
    obtain ⟨r, hr⟩ := h _ (List.getElem_mem hj)
    unfold Prog.params Prog.body plP
    simp only [List.getElem?_map, hg, Option.map_some, hr, Option.getD_some]
section
variable {cfg : Cfg} (B : Base cfg) (C : Pl8 cfg) {P : Prog} {p w : Nat} {A : LH}
include B C
theorem branches_pl {f N : Nat} (ih : PSt cfg P p w f N) {ctx : List Slot} {t : Nat} {x0 : D} {r4 : Option D} (hP : PlAt A p w) (hW : WAt A w P) : ∀ (xs ys zs : List T) (sh : List (List Slot)) (X : LH) (r6 r7 : Option D), okBs P ctx sh xs → (∀ s ∈ sh, s.length ≤ 3) → plBs P f ctx.length sh xs = some ys → 3 * tds xs + 10 ≤ N → zs.length + xs.length ≤ 1000 →
    ∃ X' r6' r7', loopI (turnF cfg (run cfg N) (calls cfg N).2 (.tup [.name 6, .name 7]) [.expr (.bm .append (.var 5) [.mth (.var 0) 22 [.var 7, .bin .add (.var 3) (.bf .len [.var 6])]])]) (pairs (sh.map eSlots) (encs xs)) [some (.ref p), some (.int (t : Int)), some x0, some (.int (ctx.length : Int)), r4, some (.ref A.length), r6, r7] (A ++ .lst (encs zs) :: X)
      = .ok (.more [some (.ref p), some (.int (t : Int)), some x0, some (.int (ctx.length : Int)), r4, some (.ref A.length), r6', r7']) (A ++ .lst (encs (zs ++ ys)) :: X')
  | [], ys, zs, sh, X, r6, r7, ho, hs, hp, hn, ha => by
    simp only [okBs] at ho
    subst ho
    rw [mapZ_nil hp]
    exact ⟨X, r6, r7, by simp [pairs, encs, loopI]⟩
  | x :: xs, ys, zs, sh, X, r6, r7, ho, hs, hp, hn, ha => by
    simp only [okBs] at ho
    obtain ⟨s, r, rfl, h1, h2⟩ := ho
    obtain ⟨y, ys', p1, p2, rfl⟩ := mapZ_cons hp
    simp only [tds] at hn
    simp at ha
    obtain ⟨G1, e1⟩ := ih x y (ctx ++ s) (A ++ .lst (encs zs) :: X) h1 (by rw [List.length_append]; exact p1) hP.app hW.app (by omega)
    rw [List.length_append, Int.natCast_add] at e1
    obtain ⟨X', q6, q7, e2⟩ := branches_pl ih hP hW (t := t) (x0 := x0) (r4 := r4) xs ys' (zs ++ [y]) r (X ++ G1) (some (eSlots s)) (some (enc x)) h2 (fun y m => hs y (List.mem_cons_of_mem _ m)) p2 (by omega) (by simp; omega)
    have ha' : (encs zs).length < most := by rw [encs_length]; unfold most; omega
    refine ⟨X', q6, q7, ?_⟩
    have hP' := fun X : LH => hP.app (G := X)
    unfold PlAt at hP'
    have ez : encs (zs ++ [y]) = encs zs ++ [enc y] := by rw [encs_map, encs_map]; simp
    rw [ez] at e2
    simp only [List.map_cons, encs, pairs, loopI]
    simp [eSlots] at e1 e2
    simp [turnF_def, eSlots, hP', C.m22, e1, bmOk, bmR, at_end, set_end, ha', e2]
theorem plainer_tm {f N : Nat} (W : PWf P) (ihS : ∀ M, M ≤ N → PSt cfg P p w f M) (ihT : ∀ M, M ≤ N → PTm cfg P p w f M) : PTm cfg P p w (f + 1) (N + 1) := by
  intro x r sl ctx L hs ho hp hP hW hn
  have hn0 := td_pos x
  obtain ⟨N, rfl⟩ : ∃ M, N = M + 1 := ⟨N - 1, by omega⟩
  have sh := fun X : LH => shapes_ok B (n := N) (hW.app (G := X)) hs
  have sh0 := shapes_ok B (n := N) hW hs
  have hP' := hP
  have hW' := hW
  unfold PlAt at hP'
  unfold WAt at hW'
  have q := plT_cases hp
  rw [run_succ, runDef_of C.d75 rfl]
  cases q with
  | bind s r h1 =>
    simp only [okT] at ho
    simp only [td] at hn
    have lc : (ctx ++ [(!sl.1, sl.2)]).length = ctx.length + 1 := by simp
    obtain ⟨G, e⟩ := ihS (N + 1) (Nat.le_refl _) s r (ctx ++ [(!sl.1, sl.2)]) L ho (by rw [lc]; exact h1) hP hW (by omega)
    rw [lc, cast_succ] at e
    exact ⟨G, by simp [Lib.Plainer_term, enc, hP', C.m22, e]⟩
  | make k xs ys h1 =>
    simp only [okT] at ho
    simp only [td] at hn
    have sk := P.shape_at ho.2.1
    obtain ⟨G, e⟩ := plainer_termsF B C (ihT N (by omega)) ho.2.2 W.shape (W.shl sl.2 k) h1 hP hW (by omega)
    exact ⟨G, by simp [Lib.Plainer_term, enc, hP', hW', C.f15, C.m19, B.m0_11, sh0, sk, e]⟩
  | mtch xs ys h1 =>
    simp only [okT] at ho
    simp only [td] at hn
    have ll := okBs_len ho.2
    have l4 := W.shn sl.2
    obtain ⟨X', q6, q7, e⟩ := branches_pl B C (ihS (N + 1) (Nat.le_refl _)) (t := sl.2) (x0 := enc (.mtch xs)) (r4 := some (.tup ((P.shapes sl.2).map eSlots))) hP hW xs ys [] (P.shapes sl.2) [] none none ho.2 (fun s m => by obtain ⟨k, hk⟩ := List.getElem?_of_mem m; have := W.shl sl.2 k; unfold Prog.shape at this; rw [List.getD_eq_getElem?_getD, hk] at this; exact this) h1 (by omega) (by simp; omega)
    refine ⟨.lst (encs ys) :: X', ?_⟩
    simp [enc, encs] at e
    simp [Lib.Plainer_term, enc, hP', hW', C.f15, B.m0_11, sh0, e]
  | other _ h1 h2 h3 =>
    cases x with
    | var k => exact ⟨[], by simp [Lib.Plainer_term, enc, hP', hW', C.f15, B.m0_11, sh0]⟩
    | bind y => exact absurd rfl (h1 y)
    | make k xs => exact absurd rfl (h2 k xs)
    | mtch xs => exact absurd rfl (h3 xs)
    | _ => simp [okT] at ho
theorem plainer_all (W : PWf P) : ∀ (f N : Nat), f ≤ 9000 → N ≤ 1000 → PSt cfg P p w f N ∧ PTm cfg P p w f N
  | 0, N, _, _ => ⟨fun s r ctx L _ h => (by cases h), fun x r sl ctx L _ _ h => (by cases h)⟩
  | f + 1, 0, _, _ => ⟨fun s r ctx L _ _ _ _ h => by omega, fun x r sl ctx L _ _ _ _ _ h => by omega⟩
  | f + 1, N + 1, h1, h2 => ⟨plainer_st B C W (fun M hM => (plainer_all W f M (by omega) (by omega)).2) (by omega) (by omega), plainer_tm B C W (fun M hM => (plainer_all W f M (by omega) (by omega)).1) (fun M hM => (plainer_all W f M (by omega) (by omega)).2)⟩
theorem form_loop {N fb : Nat} (W : PWf P) (hfb : fb ≤ 9000) (hN : 110 ≤ N) (hN2 : N ≤ 996) (hP : PlAt A p w) (hW : WAt A w P) {r0 : Option D} : ∀ (l done : List (List Slot × T)) (X : LH) (r4 r5 r6 : Option D), (∀ d ∈ l, okS P d.1 d.2 ∧ td d.2 ≤ 30 ∧ ∃ r, plS P fb d.1.length d.2 = some r ∧ sz r ≤ 20000 ∧ td r ≤ 100) → done.length + l.length ≤ 100 →
    ∃ X' r4' r5' r6', loopI (turnF cfg (run cfg (N + 4)) (calls cfg (N + 4)).2 (.tup [.name 4, .name 5]) [.set 6 (.mth (.var 2) 22 [.var 5, .bf .len [.var 4]]), .ite (.call 14 [.var 6]) [.never] [], .expr (.bm .append (.var 3) [.tup [.var 4, .var 6]])]) (l.map eDef) [r0, some (.ref w), some (.ref p), some (.ref A.length), r4, r5, r6] (A ++ .lst (done.map eDef) :: X)
      = .ok (.more [r0, some (.ref w), some (.ref p), some (.ref A.length), r4', r5', r6']) (A ++ .lst ((done ++ l.map fun d => (d.1, (plS P fb d.1.length d.2).getD d.2)).map eDef) :: X')
  | [], done, X, r4, r5, r6, h, hl => ⟨X, r4, r5, r6, by simp [loopI]⟩
  | d :: l, done, X, r4, r5, r6, h, hl => by
    obtain ⟨h1, h2, r, h3, h4, h5⟩ := h d List.mem_cons_self
    simp at hl
    obtain ⟨G1, e1⟩ := (plainer_all B C (p := p) (w := w) W fb (N + 4) hfb (by omega)).1 d.2 r d.1 (A ++ .lst (done.map eDef) :: X) h1 h3 hP.app hW.app (by omega)
    obtain ⟨G2, e2⟩ := toomuch_ok B (n := N) (x := r) (L := (A ++ .lst (done.map eDef) :: X) ++ G1) h4 h5
    obtain ⟨X', q4, q5, q6, e3⟩ := form_loop W hfb hN hN2 hP hW (r0 := r0) l (done ++ [(d.1, r)]) (X ++ G1 ++ G2) (some (eSlots d.1)) (some (enc d.2)) (some (enc r)) (fun y m => h y (List.mem_cons_of_mem _ m)) (by simp; omega)
    have ha' : done.length < most := by unfold most; omega
    refine ⟨X', q4, q5, q6, ?_⟩
    have hP' := fun X : LH => hP.app (G := X)
    unfold PlAt at hP'
    have es : bfR cfg.tab .len (A ++ .lst (done.map eDef) :: X) [eSlots d.1] = .ok (.int (d.1.length : Int)) (A ++ .lst (done.map eDef) :: X) := by simp [eSlots]
    simp [eDef] at e1 e2 e3 es
    simp [loopI, turnF_def, eDef, hP', C.m22, es, e1, e2, bmOk, bmR, at_end, set_end, ha', h3, e3]
theorem plainer_new {n : Nat} {L : LH} : run cfg (n + 1) 71 [.ref (L.length + 1), .ref L.length] (L ++ [.ins 0 [(2, eDecls P.decls), (3, eDefs P.defs)], .ins 6 []]) = .ok .non (L ++ [.ins 0 [(2, eDecls P.decls), (3, eDefs P.defs)], .ins 6 [(15, .ref L.length)]]) := by
  rw [run_succ, runDef_of C.d71 rfl]
  simp [Lib.Plainer___init__, setFR, C.f15, at_two, set_two]
theorem plain_form_ok (H : Good P) {N fb : Nat} {L : LH} (hfb : fb ≤ 9000) (hN : 110 ≤ N) (hN2 : N ≤ 996) (hf : ∀ d ∈ P.defs, ∃ r, plS P fb d.1.length d.2 = some r ∧ sz r ≤ 20000 ∧ td r ≤ 100) : ∃ G, run cfg (N + 5) 76 [eProg P] L = .ok (eProg (plP P fb)) (L ++ G) := by
  have h2 := H.h2
  have f6 := H.F.dfs
  obtain ⟨G1, e1⟩ := check_ok B H.W H.F (n := N + 4) (L := L) H.hb H.h1 H.h2 (by omega)
  have wo := world_ok B (n := N + 2) (P := P) (L := L ++ G1)
  have po := plainer_new B C (P := P) (n := N + 2) (L := L ++ G1)
  obtain ⟨X', q4, q5, q6, e2⟩ := form_loop B C (A := (L ++ G1) ++ [.ins 0 [(2, eDecls P.decls), (3, eDefs P.defs)], .ins 6 [(15, .ref (L ++ G1).length)]]) (p := (L ++ G1).length + 1) (w := (L ++ G1).length) (N := N) (fb := fb) H.W hfb hN hN2 (by unfold PlAt; rw [List.getElem?_append_right (by omega)]; simp) (by unfold WAt; rw [List.getElem?_append_right (by omega)]; simp) (r0 := some (eProg P)) P.defs [] [] none none none (fun d m => ⟨H.hb d m, by have mb : d.2 ∈ bodies P := List.mem_map_of_mem m; have := tds_mem mb; omega, hf d m⟩) (by simp; omega)
  rw [run_succ, runDef_of C.d76 rfl]
  refine ⟨G1 ++ .ins 0 [(2, eDecls P.decls), (3, eDefs P.defs)] :: .ins 6 [(15, .ref (L ++ G1).length)] :: .lst ((plP P fb).defs.map eDef) :: X', ?_⟩
  have er : eProg (plP P fb) = .tup [eDecls P.decls, .tup ((plP P fb).defs.map eDef)] := rfl
  have ed : (plP P fb).defs = P.defs.map fun d => (d.1, (plS P fb d.1.length d.2).getD d.2) := rfl
  have sD : ∀ L, srcR .seq L [eDefs P.defs] = some (.items (P.defs.map eDef)) := fun L => rfl
  rw [er, ed]
  simp [ini_succ, Nat.add_assoc] at e1 wo po e2
  have gt : ∀ (o : LO) (X : LH), (L ++ (G1 ++ o :: X))[L.length + G1.length]? = some o := fun o X => by simp
  have gt2 : ∀ (o o' : LO) (X : LH), (L ++ (G1 ++ o :: o' :: X))[L.length + (G1.length + 1)]? = some o' := fun o o' X => by
    rw [List.getElem?_append_right (by omega), List.getElem?_append_right (by omega)]
    simp
  have gt3 : ∀ (o o' o3 : LO) (X : LH), (L ++ (G1 ++ o :: o' :: o3 :: X))[L.length + (G1.length + 2)]? = some o3 := fun o o' o3 X => by
    rw [List.getElem?_append_right (by omega), List.getElem?_append_right (by omega)]
    simp
  simp [Lib.plain_form, e1, B.i0, C.i6, ini_succ, wo, po, gt, gt2, gt3, B.f0_3, B.f0_2, sD, e2, Nat.add_assoc]
end
end Ap

end
section
set_option linter.all false
set_option maxRecDepth 100000
set_option maxHeartbeats 1000000
/-! The box; the walk of statements; the law of steps. -/
namespace Ap
open Ev
theorem loop_same {α : Type} {step : D → List D → LH → R (Step (List D) Unit)} {toD g : α → D} {L : LH} : ∀ {ks : List α}, (∀ k ∈ ks, ∀ (acc : List D), acc.length ≤ 1000 → step (toD k) acc L = .ok (.more (acc ++ [g k])) L) → ∀ (acc : List D), acc.length + ks.length ≤ 1000 →
    loopI step (ks.map toD) acc L = .ok (.more (acc ++ ks.map g)) L
  | [], h, acc, hl => by simp [loopI]
  | k :: ks, h, acc, hl => by
    have e1 := h k List.mem_cons_self acc (by simp at hl; omega)
    have e2 := loop_same (fun k m => h k (List.mem_cons_of_mem _ m)) (acc ++ [g k]) (by simp at hl ⊢; omega)
    simp only [List.map_cons, loopI, e1, bind_ok, e2]
    simp
theorem check_loop {α : Type} {toD : α → D} {step : D → Env → LH → R (Step Env Fl)} {Inv : Env → Prop} {L0 : LH} : ∀ (ks : List α), (∀ k ∈ ks, ∀ (ρ : Env) (G : LH), Inv ρ → ∃ ρ' G', step (toD k) ρ (L0 ++ G) = .ok (.more ρ') (L0 ++ G') ∧ Inv ρ') →
    ∀ (ρ : Env) (G : LH), Inv ρ → ∃ ρ' G', loopI step (ks.map toD) ρ (L0 ++ G) = .ok (.more ρ') (L0 ++ G') ∧ Inv ρ'
  | [], h, ρ, G, hi => ⟨ρ, G, by simp [loopI], hi⟩
  | k :: ks, h, ρ, G, hi => by
    obtain ⟨ρ1, G1, e1, i1⟩ := h k List.mem_cons_self ρ G hi
    obtain ⟨ρ2, G2, e2, i2⟩ := check_loop ks (fun k m => h k (List.mem_cons_of_mem _ m)) ρ1 G1 i1
    exact ⟨ρ2, G2, by simp only [List.map_cons, loopI, e1, bind_ok, e2], i2⟩
/-- a statement of a walk -/
def Calm (P : Prog) (a : T) : Prop := okS P [] a ∧ td a ≤ 60 ∧ sz a ≤ 1500
theorem small_calm {P : Prog} {a : T} (h : okS P [] a) (hs : small a = true) : Calm P a := by
  unfold small at hs
  simp only [Bool.and_eq_true, decide_eq_true_eq] at hs
  exact ⟨h, hs.1, hs.2⟩
theorem walk_chain {P : Prog} (W : PWf P) : ∀ (n : Nat) (s : T), Calm P s → ∀ k, k < (walkT P n s).length → ∃ a r, (s :: (walkT P n s).map fun r => r.2)[k]? = some a ∧ Calm P a ∧ stepT P a = some r ∧ (s :: (walkT P n s).map fun r => r.2)[k + 1]? = some r.2 ∧ (walkT P n s)[k]? = some r ∧ Calm P r.2
  | 0, s, _, k, h => by simp [walkT] at h
  | n + 1, s, hc, k, h => by
    unfold walkT at h ⊢
    cases hs : stepT P s with
    | none => rw [hs] at h; simp at h
    | some r =>
      rw [hs] at h
      simp only at h ⊢
      have ok2 := step_keeps W hc.1 hs
      by_cases hm : small r.2 = true
      · rw [if_pos hm] at h ⊢
        have c2 := small_calm ok2 hm
        cases k with
        | zero => exact ⟨s, r, by simp, hc, hs, by simp, by simp, c2⟩
        | succ k =>
          obtain ⟨a, r', h1, h2, h3, h4, h5, h6⟩ := walk_chain W n r.2 c2 k (by simpa using h)
          exact ⟨a, r', by simpa using h1, h2, h3, by simpa using h4, by simpa using h5, h6⟩
      · rw [if_neg hm] at h
        simp at h
theorem walk_all {P : Prog} (W : PWf P) {n : Nat} {s : T} (h : Calm P s) : ∀ k, k ≤ (walkT P n s).length → ∃ a, (s :: (walkT P n s).map fun r => r.2)[k]? = some a ∧ Calm P a
  | 0, _ => ⟨s, by simp, h⟩
  | k + 1, hk => by
    obtain ⟨a, r, h1, h2, h3, h4, h5, h6⟩ := walk_chain W n s h k (by omega)
    exact ⟨r.2, h4, h6⟩
theorem Good.calm {P : Prog} (H : Good P) : Calm P (P.body 0) := by
  refine ⟨H.ok0, by have := H.td 0; omega, ?_⟩
  have h1 := H.h1
  unfold Prog.body
  cases h : P.defs[0]? with
  | none => simp [sz]
  | some d =>
    have m : d.2 ∈ bodies P := List.mem_map_of_mem (List.mem_of_getElem? h)
    have : ∀ (l : List T) (x : T), x ∈ l → sz x ≤ szs l := by
      intro l
      induction l with
      | nil => intro x m; simp at m
      | cons y l ih =>
        intro x m
        simp only [szs]
        rcases List.mem_cons.mp m with m | m
        · subst m; omega
        · have := ih x m; omega
    have := this _ _ m
    simp only
    omega
theorem Calm.shown {P : Prog} (H : Good P) {a : T} (h : Calm P a) : Shown (enc a) 120 600000 :=
  (shown_S H a [] h.1 (by have := h.2.1; simp; omega)).mono (by have := h.2.1; omega) (by have := h.2.2; omega)
section
variable {cfg : Cfg} (B : Base cfg) {P : Prog} {ns : List Int}
include B
theorem box_ok {n : Nat} (hl : ns.length ≤ 63) : run cfg (n + 1) 85 [.scr ns] [] = .ok (.ref 1) (HB ((ns.map fun (i : Int) => (i.natAbs : Int)).map D.int) (0, 0, 0) []) := by
  have e := loop_same (L := []) (toD := D.int) (g := fun (i : Int) => D.int (i.natAbs : Int)) (step := turnC cfg (run cfg n) (calls cfg n).2 (.name 1) [1] [] (.bf .abs [.bf .int [.var 1]]) [some (.scr ns), none]) (ks := ns) (fun k m acc ha => by
    have ha' : acc.length < most := by unfold most; omega
    have hk : (if k < 0 then -k else k) = (k.natAbs : Int) := by split <;> omega
    simp [turnC_def, ha', hk]) [] (by simp; omega)
  rw [run_succ, runDef_of B.d85 rfl]
  have src : ∀ L, srcR .seq L [.scr ns] = some (.items (ns.map D.int)) := fun L => rfl
  simp at e
  simp [Lib._law_box, src, e, HB_def]
theorem law4_ok {f : Nat} (h166 : cfg.defs 166 = some Lib._law_statements) (hf : cfg.defs f = some Lib.law4) (h77 : cfg.defs 77 = some Lib.begin) (h149 : cfg.defs 149 = some Lib.step) {n : Nat} (hn : 330 ≤ n) (hn2 : n ≤ 1000) (hl : ns.length ≤ 63) : ∃ L, run cfg (n + 1) f [.scr ns] [] = .ok (.bl true) L := by
  obtain ⟨m, rfl⟩ : ∃ m, n = m + 1 := ⟨n - 1, by omega⟩
  have e1 := box_ok B (n := m) hl
  obtain ⟨s2, G2, P, e2, H⟩ := program_drawn B (n := m) (ns := ns.map fun (i : Int) => (i.natAbs : Int)) (s := (0, 0, 0)) (G := []) (by omega)
  generalize HB ((ns.map fun (i : Int) => (i.natAbs : Int)).map D.int) (0, 0, 0) [] = L0 at e1 e2
  generalize HB ((ns.map fun (i : Int) => (i.natAbs : Int)).map D.int) s2 ([] ++ G2) = L1 at e2
  obtain ⟨G3, e3⟩ := begin_ok B h77 H (n := m + 1) (L := L1) (by omega)
  generalize L1 ++ G3 = L2 at e3
  obtain ⟨G4, e4⟩ := statements_ok B h166 H.W (Db := 30) (n := m + 1) (M := 16) (L := L2) (fun j => H.td j) (by omega) (by omega) (by omega)
  have ch := walk_chain H.W 16 (P.body 0) H.calm
  have al := walk_all H.W (n := 16) H.calm
  have wl := walkT_len (P := P) 16 (P.body 0)
  generalize walkT P 16 (P.body 0) = W at e4 ch al wl
  obtain ⟨F, hF⟩ : ∃ F, F = (P.body 0 :: W.map fun r => r.2).map enc := ⟨_, rfl⟩
  obtain ⟨K, hK⟩ : ∃ K, K = W.map fun r => D.bl r.1 := ⟨_, rfl⟩
  have hF2 : enc (P.body 0) :: W.map (fun r => enc r.2) = F := by rw [hF]; simp
  rw [hF2, ← hK] at e4
  have fl : F.length = W.length + 1 := by rw [hF]; simp
  have kl : K.length = W.length := by rw [hK]; simp
  have i1 : ∀ L, idxR L (eProg P) (.int 1) = some (eDefs P.defs) := fun L => rfl
  obtain ⟨d, hd, hd1, hd2⟩ := prog_params B H.W.one
  have i2 : ∀ L, idxR L (eDefs P.defs) (.int 0) = some (.tup [eSlots (P.params 0), enc (P.body 0)]) := fun L => by simp [eDefs, hd, eDef, hd1, hd2]
  have rp : ∀ L, bfR cfg.tab .repr L [eProg P] = _ := fun L => repr_of (shown_prog H) (by omega) (by omega)
  have rc : ∀ a, Calm P a → ∀ L, bfR cfg.tab .repr L [enc a] = _ := fun a h L => repr_of (h.shown H) (by omega) (by omega)
  have r0 := rc _ H.calm
  have src : ∀ L, srcR .rng1 L [.int (W.length : Int)] = _ := fun L => srcR_rng (by omega)
  generalize ((eProg P).py cfg.tab).shown = sh at rp
  obtain ⟨ρ', G5, e5, r4, hi⟩ := check_loop (toD := fun (i : Nat) => D.int (i : Int)) (L0 := L2 ++ [.lst F, .lst K]) (Inv := fun ρ => ∃ r4, ρ = [some (.scr ns), some (.ref 1), some (eProg P), some (.txt sh), r4, none, some (.ref L2.length), some (.ref (L2.length + 1))])
    (step := turnF cfg (run cfg (m + 1)) (calls cfg (m + 1)).2 (.name 4) [.ite (.cmp .ne (.bf .repr [.call 149 [.var 2, .idx (.var 6) (.var 4)]]) (.bf .repr [.idx (.var 6) (.bin .add (.var 4) (.int 1))])) [.ret (.bl false)] []]) (List.range W.length)
    (fun k mk ρ G hi => by
      obtain ⟨r4, rfl⟩ := hi
      obtain ⟨a, r, c1, c2, c3, c4, c5, c6⟩ := ch k (List.mem_range.mp mk)
      obtain ⟨G', es⟩ := step_ok B h149 H (n := m + 1) (s := a) (L := L2 ++ .lst F :: .lst K :: G) c2.1 c2.2.1 (by have := c2.2.2; omega) (fun r' hr' => by
        rw [c3] at hr'
        cases hr'
        exact ⟨by have := c6.2.1; omega, by have := c6.2.2; omega⟩) hn hn2
      rw [c3] at es
      have f1 : atI F (k : Int) = some (enc a) := by rw [atI_nat, hF, List.getElem?_map, c1]; rfl
      have f2 : atI F ((k : Int) + 1) = some (enc r.2) := by rw [← cast_succ, atI_nat, hF, List.getElem?_map, c4]; rfl
      refine ⟨[some (.scr ns), some (.ref 1), some (eProg P), some (.txt sh), some (.int k), none, some (.ref L2.length), some (.ref (L2.length + 1))], G ++ G', ?_, ⟨_, rfl⟩⟩
      simp at es
      simp [turnF_def, f1, f2, es, rc _ c6])
    [some (.scr ns), some (.ref 1), some (eProg P), some (.txt sh), none, none, some (.ref L2.length), some (.ref (L2.length + 1))] G4 ⟨_, rfl⟩
  subst hi
  obtain ⟨z, hz, cz⟩ := al W.length (Nat.le_refl _)
  have f3 : atI F ((W.length : Int) + 1 - 1) = some (enc z) := by
    rw [show (W.length : Int) + 1 - 1 = (W.length : Int) by omega, atI_nat, hF, List.getElem?_map, hz]; rfl
  rw [run_succ, runDef_of hf rfl]
  simp at e4 e5
  have kl2 : ∀ X, (L2 ++ LO.lst F :: .lst K :: X)[L2.length + 1]? = some (.lst K) := fun X => at_two
  cases z with
  | stop k =>
    obtain ⟨G6, e6⟩ := step_ok B h149 H (n := m + 1) (s := .stop k) (L := L2 ++ .lst F :: .lst K :: G5) cz.1 cz.2.1 (by have := cz.2.2; omega) (fun r hr => by
      simp [stepT, thirdT, reducedT] at hr) hn hn2
    simp [stepT, thirdT, reducedT, enc] at e6
    simp [enc] at f3
    exact ⟨L2 ++ LO.lst F :: .lst K :: (G5 ++ G6), by simp [Lib.law4, e1, e2, rp, e3, i1, i2, r0, e4, kl2, kl, src, e5, fl, f3, e6]⟩
  | cut t p c =>
    simp [enc] at f3
    exact ⟨L2 ++ LO.lst F :: .lst K :: G5, by simp [Lib.law4, e1, e2, rp, e3, i1, i2, r0, e4, kl2, kl, src, e5, fl, f3]⟩
  | call j xs =>
    simp [enc] at f3
    exact ⟨L2 ++ LO.lst F :: .lst K :: G5, by simp [Lib.law4, e1, e2, rp, e3, i1, i2, r0, e4, kl2, kl, src, e5, fl, f3]⟩
  | _ => simp [Calm, okS] at cz
end
end Ap

end
section
set_option linter.all false
set_option maxRecDepth 100000
set_option maxHeartbeats 1000000
/-! Runs of programs. -/
namespace Ap
open Ev
def isStop : T → Bool
  | .stop _ => true
  | _ => false
/-- the statements met within so many steps are small, and steps there are -/
def Visit (P : Prog) : Nat → T → Prop
  | 0, s => Calm P s
  | f + 1, s => Calm P s ∧ (isStop s = true ∨ ∃ r, stepT P s = some r ∧ Visit P f r.2)
/-- the stop that comes within so many steps -/
def outT (P : Prog) : Nat → T → Option (Nat × Nat)
  | f, .stop n => some (n, 0)
  | 0, _ => none
  | f + 1, s => match stepT P s with
    | some r => (outT P f r.2).map fun q => (q.1, q.2 + 1)
    | none => none
def lastT : List (Bool × T) → T → T
  | [], s => s
  | r :: w, _ => lastT w r.2
theorem Visit.calm {P : Prog} {f : Nat} {s : T} (h : Visit P f s) : Calm P s := by
  cases f with
  | zero => exact h
  | succ f => exact h.1
theorem stop_none {P : Prog} {n : Nat} : stepT P (.stop n) = none := by simp [stepT, thirdT, reducedT]
theorem outT_step {P : Prog} {f : Nat} {s : T} {r : Bool × T} (h : stepT P s = some r) : outT P (f + 1) s = (outT P f r.2).map fun q => (q.1, q.2 + 1) := by
  cases s with
  | stop n => rw [stop_none] at h; cases h
  | _ => simp only [outT, h]
theorem outT_zero {P : Prog} {s : T} (h : isStop s = false) : outT P 0 s = none := by
  cases s <;> simp [outT, isStop] at h ⊢
theorem notStop {P : Prog} {s : T} {r : Bool × T} (h : stepT P s = some r) : isStop s = false := by
  cases s with
  | stop n => rw [stop_none] at h; cases h
  | _ => rfl
theorem walk_cons {P : Prog} {M : Nat} {s : T} {r : Bool × T} {w : List (Bool × T)} (h : walkT P M s = r :: w) : ∃ M', M = M' + 1 ∧ stepT P s = some r ∧ small r.2 = true ∧ w = walkT P M' r.2 := by
  cases M with
  | zero => simp [walkT] at h
  | succ M =>
    simp only [walkT] at h
    cases hs : stepT P s with
    | none => rw [hs] at h; simp at h
    | some q =>
      rw [hs] at h
      simp only at h
      split at h
      · rename_i hm
        injection h with h1 h2
        subst h1
        exact ⟨M, rfl, rfl, hm, h2.symm⟩
      · cases h
theorem walk_visit {P : Prog} (W : PWf P) : ∀ (w : List (Bool × T)) (M : Nat) (s : T), walkT P M s = w → Calm P s → Calm P (lastT w s) ∧
    (∀ n, lastT w s = .stop n → ∀ f, w.length ≤ f → outT P f s = some (n, w.length) ∧ Visit P f s) ∧
    (∀ f, f < w.length → outT P f s = none ∧ Visit P f s) ∧
    (isStop (lastT w s) = false → outT P w.length s = none ∧ Visit P w.length s)
  | [], M, s, h, c => by
    refine ⟨c, fun n hn f _ => ?_, fun f hf => by simp at hf, fun hs => ⟨outT_zero hs, c⟩⟩
    simp only [lastT] at hn
    subst hn
    cases f with
    | zero => exact ⟨rfl, c⟩
    | succ f => exact ⟨rfl, c, .inl rfl⟩
  | r :: w, M, s, h, c => by
    obtain ⟨M', rfl, hs, hm, hw⟩ := walk_cons h
    have c2 := small_calm (step_keeps W c.1 hs) hm
    obtain ⟨i0, i1, i2, i3⟩ := walk_visit W w M' r.2 hw.symm c2
    simp only [lastT, List.length_cons]
    refine ⟨i0, fun n hn f hf => ?_, fun f hf => ?_, fun hst => ?_⟩
    · obtain ⟨f, rfl⟩ : ∃ g, f = g + 1 := ⟨f - 1, by omega⟩
      obtain ⟨q1, q2⟩ := i1 n hn f (by omega)
      rw [outT_step hs, q1]
      exact ⟨rfl, c, .inr ⟨r, hs, q2⟩⟩
    · cases f with
      | zero => exact ⟨outT_zero (notStop hs), c⟩
      | succ f =>
        obtain ⟨q1, q2⟩ := i2 f (by omega)
        rw [outT_step hs, q1]
        exact ⟨rfl, c, .inr ⟨r, hs, q2⟩⟩
    · obtain ⟨q1, q2⟩ := i3 hst
      rw [outT_step hs, q1]
      exact ⟨rfl, c, .inr ⟨r, hs, q2⟩⟩
theorem lastT_get : ∀ (w : List (Bool × T)) (s : T), (s :: w.map fun r => r.2)[w.length]? = some (lastT w s)
  | [], s => rfl
  | r :: w, s => by
    have := lastT_get w r.2
    simpa [lastT] using this
def eOut : Option (Nat × Nat) → D
  | none => .non
  | some q => .tup [.int q.1, .int q.2]
section
variable {cfg : Cfg} (B : Base cfg) {P : Prog} {ns : List Int}
include B
theorem run_loop (H : Good P) {n w m : Nat} (hn : 330 ≤ n) (hn2 : n ≤ 1000) {L0 : LH} (hw : WAt L0 w P) : ∀ (f k : Nat) (s : T) (r4 : Option D) (G : LH), k + f = m → Visit P f s →
    ∃ G', (loopI (turnF cfg (run cfg n) (calls cfg n).2 (.name 4) [.ite (.cmp .eq (.idx (.var 3) (.int 0)) (.str 18)) [.ret (.tup [.idx (.var 3) (.int 1), .var 4])] [], .ite (.cmp .lt (.var 4) (.var 1)) [.set 3 (.call 148 [.call 147 [.var 2, .var 3]])] []]) ((List.range' k (f + 1)).map fun (i : Nat) => D.int (i : Int)) [some (eProg P), some (.int (m : Int)), some (.ref w), some (enc s), r4] (L0 ++ G)).bind (fun st L => match st with
      | .more _ => R.ok .non L
      | .done (.ret v) => .ok v L
      | _ => .bad) = .ok (eOut ((outT P f s).map fun q => (q.1, k + q.2))) (L0 ++ G') := by
  intro f
  induction f with
  | zero =>
    intro k s r4 G hk hv
    have hkm : ¬ (k : Int) < (m : Int) := by omega
    cases s with
    | stop j => exact ⟨G, by simp [List.range', loopI, turnF_def, enc, outT, eOut]⟩
    | cut t p c => exact ⟨G, by simp [List.range', loopI, turnF_def, enc, outT, eOut, hkm]⟩
    | call j xs => exact ⟨G, by simp [List.range', loopI, turnF_def, enc, outT, eOut, hkm]⟩
    | _ => exact absurd hv.calm.1 (by simp [okS])
  | succ f ih =>
    intro k s r4 G hk hv
    have hkm : (k : Int) < (m : Int) := by omega
    have hc := hv.calm
    by_cases hs : isStop s = true
    · cases s with
      | stop j => exact ⟨G, by simp [List.range', loopI, turnF_def, enc, outT, eOut]⟩
      | _ => simp [isStop] at hs
    · obtain ⟨r, hr, hv2⟩ : ∃ r, stepT P s = some r ∧ Visit P f r.2 := by
        rcases hv.2 with h | h
        · exact absurd h hs
        · exact h
      obtain ⟨n', rfl⟩ : ∃ q, n = q + 5 := ⟨n - 5, by omega⟩
      have c2 := hv2.calm
      obtain ⟨G1, e1⟩ := after_ok B H.W (n := n' + 5) (Db := 30) (s := s) (w := w) (L := L0 ++ G) hw.app (fun j => H.td j) hc.1 (by have := hc.2.1; omega) hn2
      rw [hr] at e1
      obtain ⟨G2, e2⟩ := bounded_ok B (n := n') (x := r.2) (L := L0 ++ (G ++ G1)) (by have := c2.2.2; omega) (by have := c2.2.1; omega)
      obtain ⟨G3, e3⟩ := ih (k + 1) r.2 (some (.int k)) (G ++ G1 ++ G2) (by omega) hv2
      have hsn : isStop s = false := by simpa using hs
      refine ⟨G3, ?_⟩
      rw [outT_step hr]
      have tg : ∃ c r, enc s = .tup (.str c :: r) ∧ c ≠ 18 := by
        cases s with
        | stop j => simp [isStop] at hsn
        | _ => exact ⟨_, _, by simp only [enc] <;> rfl, by omega⟩
      obtain ⟨c, rr, tg1, tg2⟩ := tg
      rw [List.range'_succ, List.map_cons, loopI]
      simp at e1 e2 e3
      rw [tg1] at e1
      simp [turnF_def, tg1, tg2, hkm, e1, e2]
      rw [e3]
      cases outT P f r.2 with
      | none => rfl
      | some q => simp [eOut]; omega
theorem run_ok (H : Good P) (h168 : cfg.defs 168 = some Lib.run) {n m : Nat} (hn : 330 ≤ n) (hn2 : n ≤ 1000) (hm : m ≤ 900) {L : LH} (hv : Visit P m (P.body 0)) : ∃ G, run cfg (n + 1) 168 [eProg P, .int (m : Int)] L = .ok (eOut (outT P m (P.body 0))) (L ++ G) := by
  have h2' := H.h2
  obtain ⟨n, rfl⟩ : ∃ q, n = q + 2 := ⟨n - 2, by omega⟩
  obtain ⟨G1, e1⟩ := check_ok B H.W H.F (n := n + 2) (L := L) H.hb H.h1 H.h2 (by omega)
  have wo := world_ok B (n := n) (P := P) (L := L ++ G1)
  have wa : WAt ((L ++ G1) ++ [.ins 0 [(2, eDecls P.decls), (3, eDefs P.defs)]]) (L ++ G1).length P := by unfold WAt; simp only [List.getElem?_concat_length]
  have bo := body_0 B (n := n + 1) wa H.W.one
  obtain ⟨G2, e2⟩ := run_loop B H (n := n + 2) (m := m) hn hn2 wa m 0 (P.body 0) none [] (by omega) hv
  refine ⟨G1 ++ .ins 0 [(2, eDecls P.decls), (3, eDefs P.defs)] :: G2, ?_⟩
  have src : ∀ L, srcR .rng1 L [.int ((m : Int) + 1)] = some (.items ((List.range' 0 (m + 1)).map fun (i : Nat) => D.int (i : Int))) := fun L => by
    rw [← cast_succ, srcR_rng (by omega), List.range_eq_range']
  rw [run_succ, runDef_of h168 rfl]
  unfold WAt at wa
  simp [ini_succ] at wo bo wa e2
  simp [Lib.run, e1, B.i0, ini_succ, wo, wa, B.m0_42, bo, src]
  generalize loopI _ _ _ _ = X at e2 ⊢
  cases X with
  | ok st L' =>
    cases st with
    | more ρ =>
      simp at e2 ⊢
      exact e2
    | done fl =>
      cases fl with
      | ret v =>
        simp at e2 ⊢
        exact e2
      | _ => simp at e2
  | _ => simp [R.bind] at e2
end
end Ap

end
section
set_option linter.all false
set_option maxRecDepth 100000
set_option maxHeartbeats 1000000
/-! The law of runs. -/
namespace Ap
open Ev
theorem shown_out {q : Nat × Nat} (h1 : q.1 < 1024) (h2 : q.2 < 1024) : Shown (eOut (some q)) 2 40 :=
  (shown_tup (showns_cons (shown_int h1) (showns_cons (shown_int h2) showns_nil))).mono (by omega) (by omega)
theorem shown_non : Shown .non 1 5 := ⟨rfl, rfl, by simp [D.dep], by simp [D.rl]⟩
section
variable {cfg : Cfg} (B : Base cfg) {P : Prog} {ns : List Int}
include B
theorem law5_ok {f : Nat} (h166 : cfg.defs 166 = some Lib._law_statements) (hf : cfg.defs f = some Lib.law5) (h168 : cfg.defs 168 = some Lib.run) {n : Nat} (hn : 330 ≤ n) (hn2 : n ≤ 1000) (hl : ns.length ≤ 63) : ∃ L, run cfg (n + 2) f [.scr ns] [] = .ok (.bl true) L := by
  obtain ⟨m, rfl⟩ : ∃ m, n = m + 1 := ⟨n - 1, by omega⟩
  have e1 := box_ok B (n := m + 1) hl
  obtain ⟨s2, G2, P, e2, H⟩ := program_drawn B (n := m + 1) (ns := ns.map fun (i : Int) => (i.natAbs : Int)) (s := (0, 0, 0)) (G := []) (by omega)
  obtain ⟨s3, M, hM, e3⟩ := menu_int B (n := m) (ns := ns.map fun (i : Int) => (i.natAbs : Int)) (s := s2) (G := [] ++ G2) [0, 1, 2, 3, 5, 10, 20, 40] (by simp) (by simp)
  have hM40 : M ≤ 40 := by simp at hM; omega
  simp at e1 e2 e3
  generalize HB (ns.map (D.int ∘ fun (i : Int) => (i.natAbs : Int))) s3 (G2 ++ [.lst [.int 0, .int 1, .int 2, .int 3, .int 5, .int 10, .int 20, .int 40]]) = L2 at e3
  obtain ⟨G4, e4⟩ := statements_ok B h166 H.W (Db := 30) (n := m + 1 + 1) (M := M) (L := L2) (fun j => H.td j) (by omega) (by omega) (by omega)
  obtain ⟨v0, v1, v2, v3⟩ := walk_visit H.W (walkT P M (P.body 0)) M (P.body 0) rfl H.calm
  have lg := lastT_get (walkT P M (P.body 0)) (P.body 0)
  have wl := walkT_len (P := P) M (P.body 0)
  generalize walkT P M (P.body 0) = W at e4 v0 v1 v2 v3 lg wl
  obtain ⟨F, hF⟩ : ∃ F, F = (P.body 0 :: W.map fun r => r.2).map enc := ⟨_, rfl⟩
  obtain ⟨K, hK⟩ : ∃ K, K = W.map fun r => D.bl r.1 := ⟨_, rfl⟩
  have hF2 : enc (P.body 0) :: W.map (fun r => enc r.2) = F := by rw [hF]; simp
  rw [hF2, ← hK] at e4
  have fl : F.length = W.length + 1 := by rw [hF]; simp
  have kl : K.length = W.length := by rw [hK]; simp
  have f3 : atI F ((W.length : Int) + 1 - 1) = some (enc (lastT W (P.body 0))) := by
    rw [show (W.length : Int) + 1 - 1 = (W.length : Int) by omega, atI_nat, hF, List.getElem?_map, lg]; rfl
  have kl2 : ∀ X, (L2 ++ LO.lst F :: .lst K :: X)[L2.length + 1]? = some (.lst K) := fun X => at_two
  have rr : ∀ (k : Nat), k ≤ 900 → Visit P k (P.body 0) → ∀ L, ∃ G, run cfg (m + 1 + 1) 168 [eProg P, .int (k : Int)] L = .ok (eOut (outT P k (P.body 0))) (L ++ G) := fun k hk hv L => run_ok B H h168 hn hn2 hk hv
  rw [run_succ, runDef_of hf rfl]
  cases hz : lastT W (P.body 0) with
  | stop j =>
    rw [hz] at f3 v0
    have hj : j ≤ 9 := by simpa [Calm, okS] using v0.1
    simp [enc] at f3
    obtain ⟨a1, a2⟩ := v1 j hz W.length (Nat.le_refl _)
    obtain ⟨b1, b2⟩ := v1 j hz 300 (by omega)
    obtain ⟨c1, c2⟩ := v1 j hz M wl
    have sh : ∀ L, bfR cfg.tab .repr L [eOut (some (j, W.length))] = _ := fun L => repr_of (shown_out (by simp only; omega) (by simp only; omega)) (by omega) (by omega)
    obtain ⟨G5, e5⟩ := rr W.length (by omega) a2 (L2 ++ .lst F :: .lst K :: G4)
    obtain ⟨G6, e6⟩ := rr 300 (by omega) b2 (L2 ++ .lst F :: .lst K :: (G4 ++ G5))
    rw [a1] at e5
    rw [b1] at e6
    simp [eOut] at e4 e5 e6 sh
    by_cases hw0 : W.length = 0
    · obtain ⟨G7, e7⟩ := rr M (by omega) c2 (L2 ++ .lst F :: .lst K :: (G4 ++ (G5 ++ G6)))
      rw [c1] at e7
      simp [eOut] at e7
      simp [hw0] at e5 e6 e7 sh f3
      exact ⟨L2 ++ LO.lst F :: .lst K :: (G4 ++ (G5 ++ (G6 ++ G7))), by simp [Lib.law5, e1, e2, e3, e4, kl2, kl, fl, f3, hw0, e5, e6, e7, sh]⟩
    · obtain ⟨d1, d2⟩ := v2 (W.length - 1) (by omega)
      obtain ⟨G7, e7⟩ := rr (W.length - 1) (by omega) d2 (L2 ++ .lst F :: .lst K :: (G4 ++ (G5 ++ G6)))
      obtain ⟨G8, e8⟩ := rr M (by omega) c2 (L2 ++ .lst F :: .lst K :: (G4 ++ (G5 ++ (G6 ++ G7))))
      rw [d1, show (((W.length - 1 : Nat) : Int)) = (W.length : Int) - 1 by omega] at e7
      rw [c1] at e8
      simp [eOut] at e7 e8
      have hw1 : 0 < W.length := by omega
      exact ⟨L2 ++ LO.lst F :: .lst K :: (G4 ++ (G5 ++ (G6 ++ (G7 ++ G8)))), by simp [Lib.law5, e1, e2, e3, e4, kl2, kl, fl, f3, hw1, e5, e6, e7, e8, sh]⟩
  | cut t p c =>
    rw [hz] at f3
    simp [enc] at f3 e4
    by_cases hw : W.length < M
    · exact ⟨L2 ++ LO.lst F :: .lst K :: G4, by simp [Lib.law5, e1, e2, e3, e4, kl2, kl, fl, f3, hw]⟩
    · obtain ⟨a1, a2⟩ := v3 (by rw [hz]; rfl)
      have hwm : W.length = M := by omega
      obtain ⟨G5, e5⟩ := rr W.length (by omega) a2 (L2 ++ .lst F :: .lst K :: G4)
      rw [a1, hwm] at e5
      simp [eOut] at e5
      exact ⟨L2 ++ LO.lst F :: .lst K :: (G4 ++ G5), by simp [Lib.law5, e1, e2, e3, e4, kl2, kl, fl, f3, hw, e5]⟩
  | call j xs =>
    rw [hz] at f3
    simp [enc] at f3 e4
    by_cases hw : W.length < M
    · exact ⟨L2 ++ LO.lst F :: .lst K :: G4, by simp [Lib.law5, e1, e2, e3, e4, kl2, kl, fl, f3, hw]⟩
    · obtain ⟨a1, a2⟩ := v3 (by rw [hz]; rfl)
      have hwm : W.length = M := by omega
      obtain ⟨G5, e5⟩ := rr W.length (by omega) a2 (L2 ++ .lst F :: .lst K :: G4)
      rw [a1, hwm] at e5
      simp [eOut] at e5
      exact ⟨L2 ++ LO.lst F :: .lst K :: (G4 ++ G5), by simp [Lib.law5, e1, e2, e3, e4, kl2, kl, fl, f3, hw, e5]⟩
  | _ => rw [hz] at v0; simp [Calm, okS] at v0
end
end Ap

end
section
set_option linter.all false
set_option maxRecDepth 100000
set_option maxHeartbeats 1000000
/-! Mirrors. -/
namespace Ap
open Ev
mutual
def mir : T → T
  | .var k => .var k
  | .bind s => .bind (mir s)
  | .make h as => .make h (mirs as)
  | .mtch ss => .mtch (mirs ss)
  | .cut t p c => .cut t (mir c) (mir p)
  | .call j as => .call j (mirs as)
  | .stop n => .stop n
def mirs : List T → List T
  | [] => []
  | x :: xs => mir x :: mirs xs
end
theorem mirs_map : ∀ l : List T, mirs l = l.map mir
  | [] => rfl
  | x :: xs => by rw [mirs, mirs_map xs, List.map_cons]
def mirSlot (s : Slot) : Slot := (!s.1, s.2)
def mirSlots (l : List Slot) : List Slot := l.map mirSlot
def mirDecl (d : Decl) : Decl := (!d.1, d.2.map mirSlots)
def mirP (P : Prog) : Prog := ⟨P.decls.map mirDecl, P.defs.map fun q => (mirSlots q.1, mir q.2)⟩
@[simp] theorem mirSlot2 {s : Slot} : mirSlot (mirSlot s) = s := by simp [mirSlot]
@[simp] theorem mirSlots2 {l : List Slot} : mirSlots (mirSlots l) = l := by simp [mirSlots, Function.comp_def]
@[simp] theorem mirDecl2 {d : Decl} : mirDecl (mirDecl d) = d := by simp [mirDecl, Function.comp_def]
mutual
theorem mir2 : ∀ x : T, mir (mir x) = x
  | .var k => rfl
  | .bind s => by simp only [mir, mir2 s]
  | .make h as => by simp only [mir, mirs2 as]
  | .mtch ss => by simp only [mir, mirs2 ss]
  | .cut t p c => by simp only [mir, mir2 p, mir2 c]
  | .call j as => by simp only [mir, mirs2 as]
  | .stop n => rfl
theorem mirs2 : ∀ x : List T, mirs (mirs x) = x
  | [] => rfl
  | x :: xs => by simp only [mirs, mir2 x, mirs2 xs]
end
theorem mirP2 {P : Prog} : mirP (mirP P) = P := by
  unfold mirP
  simp [Function.comp_def, mir2]
section
variable {P : Prog}
@[simp] theorem mir_decls : (mirP P).decls.length = P.decls.length := by simp [mirP]
@[simp] theorem mir_defs : (mirP P).defs.length = P.defs.length := by simp [mirP]
theorem mir_makes {t : Nat} (h : t < P.decls.length) : (mirP P).makes t = !P.makes t := by
  unfold Prog.makes mirP
  simp only [List.getElem?_map, List.getElem?_eq_getElem h, Option.map_some]
  rfl
theorem mir_shapes {t : Nat} : (mirP P).shapes t = (P.shapes t).map mirSlots := by
  unfold Prog.shapes mirP
  simp only [List.getElem?_map]
  cases P.decls[t]? <;> rfl
theorem mir_shape {t h : Nat} : (mirP P).shape t h = mirSlots (P.shape t h) := by
  unfold Prog.shape
  rw [mir_shapes, List.getD_eq_getElem?_getD, List.getD_eq_getElem?_getD, List.getElem?_map]
  cases (P.shapes t)[h]? <;> rfl
theorem mir_params {j : Nat} : (mirP P).params j = mirSlots (P.params j) := by
  unfold Prog.params mirP
  simp only [List.getElem?_map]
  cases P.defs[j]? <;> rfl
theorem mir_body {j : Nat} : (mirP P).body j = mir (P.body j) := by
  unfold Prog.body mirP
  simp only [List.getElem?_map]
  cases P.defs[j]? <;> rfl
theorem mirs_length : ∀ l : List T, (mirs l).length = l.length
  | [] => rfl
  | x :: xs => by rw [mirs, List.length_cons, mirs_length xs, List.length_cons]
theorem mirs_get (l : List T) (k : Nat) : (mirs l)[k]? = (l[k]?).map mir := by rw [mirs_map, List.getElem?_map]
mutual
theorem mir_sz : ∀ x : T, sz (mir x) = sz x
  | .var k => rfl
  | .bind s => by simp only [mir, sz, mir_sz s]
  | .make h as => by simp only [mir, sz, mirs_sz as]
  | .mtch ss => by simp only [mir, sz, mirs_sz ss]
  | .cut t p c => by simp only [mir, sz, mir_sz p, mir_sz c]; omega
  | .call j as => by simp only [mir, sz, mirs_sz as]
  | .stop n => rfl
theorem mirs_sz : ∀ x : List T, szs (mirs x) = szs x
  | [] => rfl
  | x :: xs => by simp only [mirs, szs, mir_sz x, mirs_sz xs]
end
mutual
theorem mir_td : ∀ x : T, td (mir x) = td x
  | .var k => rfl
  | .bind s => by simp only [mir, td, mir_td s]
  | .make h as => by simp only [mir, td, mirs_td as]
  | .mtch ss => by simp only [mir, td, mirs_td ss]
  | .cut t p c => by simp only [mir, td, mir_td p, mir_td c]; omega
  | .call j as => by simp only [mir, td, mirs_td as]
  | .stop n => rfl
theorem mirs_td : ∀ x : List T, tds (mirs x) = tds x
  | [] => rfl
  | x :: xs => by simp only [mirs, tds, mir_td x, mirs_td xs]
end
/-! typing -/
mutual
theorem mir_okT (W : PWf P) : ∀ (x : T) (s : Slot) (ctx : List Slot), SlotOk P s → okT P ctx s x → okT (mirP P) (mirSlots ctx) (mirSlot s) (mir x)
  | .var k, s, ctx, hs, h => by
    simp only [okT, mir] at h ⊢
    simp only [mirSlots, List.getElem?_map, h, Option.map_some]
  | .bind x, s, ctx, hs, h => by
    simp only [okT, mir] at h ⊢
    have := mir_okS W x _ h
    simpa [mirSlots, mirSlot] using this
  | .make k xs, s, ctx, hs, h => by
    simp only [okT, mir] at h ⊢
    obtain ⟨h1, h2, h3⟩ := h
    have i := mir_okTs W xs _ ctx W.shape h3
    refine ⟨?_, ?_, ?_⟩
    · show (!s.1) = (mirP P).makes s.2
      rw [mir_makes hs, h1]
    · show k < ((mirP P).shapes s.2).length
      rw [mir_shapes]
      simpa using h2
    · show okTs (mirP P) (mirSlots ctx) ((mirP P).shape s.2 k) (mirs xs)
      rw [mir_shape]
      exact i
  | .mtch ss, s, ctx, hs, h => by
    simp only [okT, mir] at h ⊢
    obtain ⟨h1, h2⟩ := h
    have i := mir_okBs W ss _ ctx h2
    refine ⟨?_, ?_⟩
    · show (!s.1) = !(mirP P).makes s.2
      rw [mir_makes hs, h1]
    · show okBs (mirP P) (mirSlots ctx) ((mirP P).shapes s.2) (mirs ss)
      rw [mir_shapes]
      exact i
  | .cut _ _ _, s, ctx, _, h => by simp [okT] at h
  | .call _ _, s, ctx, _, h => by simp [okT] at h
  | .stop _, s, ctx, _, h => by simp [okT] at h
theorem mir_okS (W : PWf P) : ∀ (x : T) (ctx : List Slot), okS P ctx x → okS (mirP P) (mirSlots ctx) (mir x)
  | .cut t p c, ctx, h => by
    simp only [okS, mir] at h ⊢
    obtain ⟨h1, h2, h3⟩ := h
    have i := mir_okT W p (true, t) ctx h1 h2
    have j := mir_okT W c (false, t) ctx h1 h3
    exact ⟨by simpa using h1, j, i⟩
  | .call j xs, ctx, h => by
    simp only [okS, mir] at h ⊢
    obtain ⟨h1, h2⟩ := h
    have i := mir_okTs W xs _ ctx (W.par j) h2
    refine ⟨by simpa using h1, ?_⟩
    rw [mir_params]
    exact i
  | .stop k, ctx, h => by simpa only [okS, mir] using h
  | .var _, ctx, h => by simp [okS] at h
  | .bind _, ctx, h => by simp [okS] at h
  | .make _ _, ctx, h => by simp [okS] at h
  | .mtch _, ctx, h => by simp [okS] at h
theorem mir_okTs (W : PWf P) : ∀ (xs : List T) (sl : List Slot) (ctx : List Slot), (∀ s ∈ sl, SlotOk P s) → okTs P ctx sl xs → okTs (mirP P) (mirSlots ctx) (mirSlots sl) (mirs xs)
  | [], sl, ctx, _, h => by
    simp only [okTs] at h
    subst h
    simp [okTs, mirs, mirSlots]
  | x :: xs, sl, ctx, hs, h => by
    simp only [okTs] at h
    obtain ⟨s, r, rfl, h1, h2⟩ := h
    simp only [okTs, mirs]
    exact ⟨mirSlot s, mirSlots r, by simp [mirSlots], mir_okT W x s ctx (hs s List.mem_cons_self) h1, mir_okTs W xs r ctx (fun y m => hs y (List.mem_cons_of_mem _ m)) h2⟩
theorem mir_okBs (W : PWf P) : ∀ (xs : List T) (sh : List (List Slot)) (ctx : List Slot), okBs P ctx sh xs → okBs (mirP P) (mirSlots ctx) (sh.map mirSlots) (mirs xs)
  | [], sl, ctx, h => by
    simp only [okBs] at h
    subst h
    simp [okBs, mirs]
  | x :: xs, sl, ctx, h => by
    simp only [okBs] at h
    obtain ⟨s, r, rfl, h1, h2⟩ := h
    simp only [okBs, mirs]
    have i := mir_okS W x _ h1
    refine ⟨mirSlots s, r.map mirSlots, by simp, ?_, mir_okBs W xs r ctx h2⟩
    simpa [mirSlots] using i
end
theorem mir_bodies : bodies (mirP P) = mirs (bodies P) := by
  unfold bodies mirP
  rw [mirs_map]
  simp [Function.comp_def]
theorem mir_good (H : Good P) : Good (mirP P) := by
  refine good_of (by simpa using H.F.dec) ?_ (by simpa using H.F.dfs) ?_ ?_ ?_ (by rw [mir_bodies, mirs_sz]; exact H.h1) (by rw [mir_bodies, mirs_td]; exact H.h2)
  · intro d md
    simp only [mirP] at md
    obtain ⟨d0, m0, rfl⟩ := List.mem_map.mp md
    obtain ⟨h1, h2, h3⟩ := H.F.sha d0 m0
    refine ⟨by simpa [mirDecl] using h1, by simpa [mirDecl] using h2, fun sh ms => ?_⟩
    simp only [mirDecl] at ms
    obtain ⟨sh0, ms0, rfl⟩ := List.mem_map.mp ms
    obtain ⟨g1, g2⟩ := h3 sh0 ms0
    refine ⟨by simpa [mirSlots] using g1, fun s m => ?_⟩
    obtain ⟨s0, m0, rfl⟩ := List.mem_map.mp m
    have := g2 s0 m0
    unfold SlotOk at this
    simpa [mirSlot] using this
  · intro q mq
    simp only [mirP] at mq
    obtain ⟨q0, m0, rfl⟩ := List.mem_map.mp mq
    obtain ⟨g1, g2⟩ := H.F.hea q0 m0
    refine ⟨by simpa [mirSlots] using g1, fun s m => ?_⟩
    obtain ⟨s0, m0, rfl⟩ := List.mem_map.mp m
    have := g2 s0 m0
    unfold SlotOk at this
    simpa [mirSlot] using this
  · intro q mq
    simp only [mirP] at mq
    obtain ⟨q0, m0, rfl⟩ := List.mem_map.mp mq
    exact mir_okS H.W q0.2 q0.1 (H.hb q0 m0)
  · rw [mir_params, H.W.nop]; rfl
/-! steps -/
mutual
theorem mir_lift {b d : Nat} : ∀ x : T, mir (lift b d x) = lift b d (mir x)
  | .var k => by simp only [lift, mir]; split <;> rfl
  | .bind s => by simp only [lift, mir, mir_lift s]
  | .make h as => by simp only [lift, mir, mirs_lift as]
  | .mtch ss => by simp only [lift, mir, mirs_lift ss]
  | .cut t p c => by simp only [lift, mir, mir_lift p, mir_lift c]
  | .call j as => by simp only [lift, mir, mirs_lift as]
  | .stop n => rfl
theorem mirs_lift {b d : Nat} : ∀ x : List T, mirs (lifts b d x) = lifts b d (mirs x)
  | [] => rfl
  | x :: xs => by simp only [lifts, mirs, mir_lift x, mirs_lift xs]
end
theorem mir_subV {f l i k : Nat} {as : List T} : mir (subV f as l i k) = subV f (mirs as) l i k := by
  unfold subV
  rw [mirs_get, mirs_length]
  split
  · rfl
  · cases as[k - f]? with
    | none => rfl
    | some a =>
      simp only [Option.map_some]
      split
      · rfl
      · exact mir_lift a
mutual
theorem mir_subS {f l : Nat} {as : List T} : ∀ (x : T) (i : Nat), mir (subS P f as l i x) = subS (mirP P) f (mirs as) l i (mir x)
  | .cut t p c, i => by simp only [subS, mir, mir_subT p, mir_subT c]
  | .call j xs, i => by simp only [subS, mir, mir_subTs xs, mir_params]
  | .var _, i => rfl
  | .bind _, i => rfl
  | .make _ _, i => rfl
  | .mtch _, i => rfl
  | .stop _, i => rfl
theorem mir_subT {f l : Nat} {as : List T} : ∀ (x : T) (t i : Nat), mir (subT P f as l t i x) = subT (mirP P) f (mirs as) l t i (mir x)
  | .var k, t, i => by simp only [subT, mir, mir_subV]
  | .bind x, t, i => by simp only [subT, mir, mir_subS x]
  | .make h xs, t, i => by simp only [subT, mir, mir_subTs xs, mir_shape]
  | .mtch ss, t, i => by simp only [subT, mir, mir_subBs ss, mir_shapes]
  | .cut _ _ _, t, i => rfl
  | .call _ _, t, i => rfl
  | .stop _, t, i => rfl
theorem mir_subTs {f l : Nat} {as : List T} : ∀ (xs : List T) (sl : List Slot) (i : Nat), mirs (subTs P f as l sl i xs) = subTs (mirP P) f (mirs as) l (mirSlots sl) i (mirs xs)
  | [], sl, i => by simp only [subTs, mirs]
  | x :: xs, [], i => by simp only [subTs, mirs, mirSlots, List.map_nil]
  | x :: xs, s :: r, i => by
    have h := mir_subTs (f := f) (l := l) (as := as) xs r i
    simp only [mirSlots] at h
    simp only [subTs, mirs, mirSlots, List.map_cons, mir_subT x, h, mirSlot]
theorem mir_subBs {f l : Nat} {as : List T} : ∀ (xs : List T) (sh : List (List Slot)) (i : Nat), mirs (subBs P f as l sh i xs) = subBs (mirP P) f (mirs as) l (sh.map mirSlots) i (mirs xs)
  | [], sl, i => by simp only [subBs, mirs]
  | x :: xs, [], i => by simp only [subBs, mirs, List.map_nil]
  | x :: xs, s :: r, i => by
    have h := mir_subBs (f := f) (l := l) (as := as) xs r i
    have ls : (mirSlots s).length = s.length := by simp [mirSlots]
    simp only [subBs, mirs, List.map_cons, mir_subS x, h, ls]
end
mutual
theorem mir_pullT (W : PWf P) {n : Nat} : ∀ (x : T) (s : Slot), SlotOk P s → pullT (mirP P) n (mirSlot s) (mir x) = (pullT P n s x).map fun q => (mirSlot q.1, mir q.2.1, mir q.2.2)
  | .bind x, s, hs => by
    have e : ((mirSlot s).1 != (mirP P).makes (mirSlot s).2) = (s.1 != P.makes s.2) := by
      show ((!s.1) != (mirP P).makes s.2) = _
      rw [mir_makes hs]
      cases s.1 <;> cases P.makes s.2 <;> rfl
    simp only [pullT, mir, e]
    split <;> rfl
  | .make h as, s, hs => by
    have i := mir_pullTs W (n := n) as (P.shape s.2 h) W.shape
    have e : (mirP P).shape (mirSlot s).2 h = mirSlots (P.shape s.2 h) := mir_shape
    simp only [pullT, mir, e, i, Option.map_map]
    rfl
  | .var _, s, _ => rfl
  | .mtch _, s, _ => rfl
  | .cut _ _ _, s, _ => rfl
  | .call _ _, s, _ => rfl
  | .stop _, s, _ => rfl
theorem mir_pullTs (W : PWf P) {n : Nat} : ∀ (xs : List T) (sl : List Slot), (∀ s ∈ sl, SlotOk P s) → pullTs (mirP P) n (mirSlots sl) (mirs xs) = (pullTs P n sl xs).map fun q => (mirSlot q.1, mir q.2.1, mirs q.2.2)
  | [], sl, _ => by simp only [pullTs, mirs, Option.map_none]
  | x :: xs, [], _ => by simp only [pullTs, mirs, mirSlots, List.map_nil, Option.map_none]
  | x :: xs, s :: r, hs => by
    have i := mir_pullT W (n := n) x s (hs s List.mem_cons_self)
    have j := mir_pullTs W (n := n) xs r (fun y m => hs y (List.mem_cons_of_mem _ m))
    simp only [mirSlots] at j
    simp only [pullTs, mirs, mirSlots, List.map_cons, i, j]
    cases pullT P n s x with
    | some q => simp only [Option.map_some, mirs, mirs_lift]
    | none =>
      simp only [Option.map_none, Option.map_map]
      congr 1
      funext q
      simp only [Function.comp, mirs, mir_lift]
end
theorem mir_plain (W : PWf P) {x : T} {s : Slot} (hs : SlotOk P s) : isPlain (mirP P) (mirSlot s) (mir x) = isPlain P s x := by
  rw [← pullT_none (n := 0), ← pullT_none (n := 0), mir_pullT W x s hs, Option.isNone_map]
theorem mir_plains (W : PWf P) {xs : List T} {sl : List Slot} (hs : ∀ s ∈ sl, SlotOk P s) : arePlain (mirP P) (mirSlots sl) (mirs xs) = arePlain P sl xs := by
  rw [← pullTs_none (n := 0), ← pullTs_none (n := 0), mir_pullTs W xs sl hs, Option.isNone_map]
theorem mir_sides {t : Nat} {p c : T} (h : t < P.decls.length) : (mirP P).sides t (mir c) (mir p) = (mir (P.sides t p c).1, mir (P.sides t p c).2) := by
  unfold Prog.sides
  rw [mir_makes h]
  cases P.makes t <;> rfl
theorem mir_join {t : Nat} {m w : T} (h : t < P.decls.length) : mir (P.join t m w) = (mirP P).join t (mir m) (mir w) := by
  unfold Prog.join
  rw [mir_makes h]
  cases P.makes t <;> rfl
theorem mir_mkCut {s : Slot} {x y : T} : mir (mkCut s x y) = mkCut (mirSlot s) (mir x) (mir y) := by
  obtain ⟨b, t⟩ := s
  cases b <;> rfl
theorem mir_third (W : PWf P) {n : Nat} {s : T} {ctx : List Slot} (h : okS P ctx s) : thirdT (mirP P) n (mir s) = (thirdT P n s).map mir := by
  cases s with
  | call j xs =>
    simp only [thirdT, mir, mir_params, mir_pullTs W xs _ (W.par j), Option.map_map]
    congr 1
    funext q
    simp only [Function.comp, mir_mkCut, mir]
  | cut t p c =>
    simp only [okS] at h
    simp only [thirdT, mir, mir_sides h.1]
    generalize P.sides t p c = q
    obtain ⟨m, w⟩ := q
    simp only
    cases m with
    | make k as =>
      simp only [thirdC, mir, mir_shape, mir_pullTs W as _ W.shape, Option.map_map]
      congr 1
      funext q
      simp only [Function.comp, mir_mkCut, mir_join h.1, mir, mir_lift]
    | _ => rfl
  | stop n => rfl
  | _ => simp [okS] at h
theorem mir_reduced (W : PWf P) {n : Nat} {s : T} {ctx : List Slot} (h : okS P ctx s) : reducedT (mirP P) n (mir s) = (reducedT P n s).map mir := by
  cases s with
  | call j xs =>
    simp only [reducedT, mir, mir_params, mir_plains W (W.par j), mir_body]
    split
    · simp only [Option.map_some, mir_subS]
    · rfl
  | cut t p c =>
    simp only [okS] at h
    simp only [reducedT, mir, mir_sides h.1]
    generalize P.sides t p c = q
    obtain ⟨m, w⟩ := q
    simp only
    have pl := mir_plain W (x := m) (s := (P.makes t, t)) h.1
    have e : mirSlot (P.makes t, t) = ((mirP P).makes t, t) := by simp [mirSlot, mir_makes h.1]
    rw [e] at pl
    cases m with
    | bind y => simp only [reducedC, mir, Option.map_some, mir_subS, mirs]
    | make k as =>
      simp only [mir] at pl
      simp only [reducedC, mir, pl]
      split
      · cases w with
        | bind y => simp only [mir, Option.map_some, mir_subS, mirs]
        | mtch ss =>
          simp only [mir, mirs_get, Option.map_map]
          congr 1
          funext y
          simp only [Function.comp, mir_subS]
        | _ => rfl
      · rfl
    | var k =>
      simp only [mir] at pl
      simp only [reducedC, mir, pl]
      split
      · cases w <;> simp only [mir, Option.map_some, Option.map_none, mir_subS, mirs]
      · rfl
    | mtch ss =>
      simp only [mir] at pl
      simp only [reducedC, mir, pl]
      split
      · cases w <;> simp only [mir, Option.map_some, Option.map_none, mir_subS, mirs]
      · rfl
    | cut t' p' c' =>
      simp only [mir] at pl
      simp only [reducedC, mir, pl]
      split
      · cases w <;> simp only [mir, Option.map_some, Option.map_none, mir_subS, mirs]
      · rfl
    | call j' xs' =>
      simp only [mir] at pl
      simp only [reducedC, mir, pl]
      split
      · cases w <;> simp only [mir, Option.map_some, Option.map_none, mir_subS, mirs]
      · rfl
    | stop k' =>
      simp only [mir] at pl
      simp only [reducedC, mir, pl]
      split
      · cases w <;> simp only [mir, Option.map_some, Option.map_none, mir_subS, mirs]
      · rfl
  | stop n => rfl
  | _ => simp [okS] at h
theorem mir_step (W : PWf P) {s : T} (h : okS P [] s) : stepT (mirP P) (mir s) = (stepT P s).map fun r => (r.1, mir r.2) := by
  unfold stepT
  rw [mir_third W h, mir_reduced W h]
  cases thirdT P 0 s with
  | some x => rfl
  | none =>
    simp only [Option.map_none]
    cases reducedT P 0 s <;> rfl
theorem mir_calm (W : PWf P) {s : T} (h : Calm P s) : Calm (mirP P) (mir s) := by
  obtain ⟨h1, h2, h3⟩ := h
  exact ⟨mir_okS W s [] h1, by rw [mir_td]; exact h2, by rw [mir_sz]; exact h3⟩
theorem mir_stop {s : T} : isStop (mir s) = isStop s := by cases s <;> rfl
theorem mir_visit (W : PWf P) : ∀ (f : Nat) (s : T), Visit P f s → Visit (mirP P) f (mir s) ∧ outT (mirP P) f (mir s) = outT P f s
  | 0, s, h => ⟨mir_calm W h, by cases s <;> rfl⟩
  | f + 1, s, h => by
    obtain ⟨h1, h2⟩ := h
    by_cases hs : isStop s = true
    · cases s with
      | stop n => exact ⟨⟨mir_calm W h1, .inl rfl⟩, rfl⟩
      | _ => simp [isStop] at hs
    · rcases h2 with h2 | ⟨r, hr, hv⟩
      · exact absurd h2 hs
      · obtain ⟨i1, i2⟩ := mir_visit W f r.2 hv
        have hm : stepT (mirP P) (mir s) = some (r.1, mir r.2) := by rw [mir_step W h1.1, hr]; rfl
        refine ⟨⟨mir_calm W h1, .inr ⟨_, hm, i1⟩⟩, ?_⟩
        rw [outT_step hm, outT_step hr, i2]
end
end Ap

end
section
set_option linter.all false
set_option maxRecDepth 100000
set_option maxHeartbeats 1000000
/-! The program's mirror. -/
namespace Ap
open Ev
theorem okTs_mem {P : Prog} {ctx : List Slot} : ∀ {xs : List T} {sl : List Slot} {x : T}, okTs P ctx sl xs → x ∈ xs → ∃ s, okT P ctx s x
  | [], sl, x, _, m => by simp at m
  | y :: xs, sl, x, h, m => by
    simp only [okTs] at h
    obtain ⟨s, r, rfl, h1, h2⟩ := h
    rcases List.mem_cons.mp m with m | m
    · subst m; exact ⟨s, h1⟩
    · exact okTs_mem h2 m
theorem okBs_mem2 {P : Prog} {ctx : List Slot} : ∀ {xs : List T} {sl : List (List Slot)} {x : T}, okBs P ctx sl xs → x ∈ xs → ∃ s, okS P (ctx ++ s) x
  | [], sl, x, _, m => by simp at m
  | y :: xs, sl, x, h, m => by
    simp only [okBs] at h
    obtain ⟨s, r, rfl, h1, h2⟩ := h
    rcases List.mem_cons.mp m with m | m
    · subst m; exact ⟨s, h1⟩
    · exact okBs_mem2 h2 m
theorem outT_bound {P : Prog} : ∀ (f : Nat) (s : T) (q : Nat × Nat), Visit P f s → outT P f s = some q → q.1 ≤ 9 ∧ q.2 ≤ f
  | f, .stop n, q, hv, h => by
    have hc := hv.calm.1
    simp only [okS] at hc
    have : outT P f (.stop n) = some (n, 0) := by cases f <;> rfl
    rw [this] at h
    cases h
    exact ⟨hc, Nat.zero_le _⟩
  | 0, s, q, hv, h => by
    cases s with
    | stop n =>
      have hc := hv.calm.1
      simp only [okS] at hc
      simp only [outT] at h
      cases h
      exact ⟨hc, Nat.zero_le _⟩
    | _ => simp [outT] at h
  | f + 1, s, q, hv, h => by
    obtain ⟨h1, h2⟩ := hv
    by_cases hs : isStop s = true
    · cases s with
      | stop n =>
        have hc := h1.1
        simp only [okS] at hc
        simp only [outT] at h
        cases h
        exact ⟨hc, Nat.zero_le _⟩
      | _ => simp [isStop] at hs
    · rcases h2 with h2 | ⟨r, hr, hv⟩
      · exact absurd h2 hs
      · rw [outT_step hr] at h
        obtain ⟨q', hq, rfl⟩ := Option.map_eq_some_iff.mp h
        have := outT_bound f r.2 q' hv hq
        exact ⟨this.1, by simp only; omega⟩
theorem shown_eOut {P : Prog} {f : Nat} {s : T} (hv : Visit P f s) (hf : f ≤ 900) : Shown (eOut (outT P f s)) 2 40 := by
  cases h : outT P f s with
  | none => exact shown_non.mono (by omega) (by omega)
  | some q =>
    obtain ⟨h1, h2⟩ := outT_bound f s q hv h
    exact shown_out (by omega) (by omega)
section
variable {cfg : Cfg} (B : Base cfg) {P : Prog} {ns : List Int}
include B
theorem mirrored_ok (h61 : cfg.defs 61 = some Lib.mirrored) (h62 : cfg.defs 62 = some Lib.mirrored_term) (W : PWf P) : ∀ n, (∀ (x : T) (ctx : List Slot) (L : LH), okS P ctx x → td x ≤ n → ∃ G, run cfg n 61 [enc x] L = .ok (enc (mir x)) (L ++ G)) ∧
    (∀ (x : T) (s : Slot) (ctx : List Slot) (L : LH), okT P ctx s x → td x ≤ n → ∃ G, run cfg n 62 [enc x] L = .ok (enc (mir x)) (L ++ G))
  | 0 => ⟨fun x _ _ _ h => by have := td_pos x; omega, fun x _ _ _ _ h => by have := td_pos x; omega⟩
  | n + 1 => by
    obtain ⟨ih1, ih2⟩ := mirrored_ok h61 h62 W n
    have tms : ∀ (xs : List T) (sl ctx : List Slot) (L : LH) (i : Nat) (ρ : Env), i < ρ.length → okTs P ctx sl xs → tds xs ≤ n → xs.length ≤ 4 → ∃ G, loopI (turnC cfg (run cfg n) (calls cfg n).2 (.name i) [i] [] (.call 62 [.var i]) ρ) (encs xs) [] L = .ok (.more (encs (mirs xs))) (L ++ G) := by
      intro xs sl ctx L i ρ hi hw ht hl
      obtain ⟨G, e⟩ := loop_map (step := turnC cfg (run cfg n) (calls cfg n).2 (.name i) [i] [] (.call 62 [.var i]) ρ) (toD := enc) (g := fun x => enc (mir x)) (ks := xs) (fun x m acc L ha => by
        obtain ⟨s, hs⟩ := okTs_mem hw m
        obtain ⟨G, e⟩ := ih2 x s ctx L hs (by have := tds_mem m; omega)
        have hm : acc.length < most := by unfold most; omega
        exact ⟨G, by simp [turnC_def, hi, e, hm]⟩) [] L (by simp; omega)
      refine ⟨G, ?_⟩
      rw [encs_map xs, encs_map (mirs xs), mirs_map, List.map_map]
      simp only [List.nil_append] at e
      exact e
    have brs : ∀ (xs : List T) (sl : List (List Slot)) (ctx : List Slot) (L : LH) (i : Nat) (ρ : Env), i < ρ.length → okBs P ctx sl xs → tds xs ≤ n → xs.length ≤ 4 → ∃ G, loopI (turnC cfg (run cfg n) (calls cfg n).2 (.name i) [i] [] (.call 61 [.var i]) ρ) (encs xs) [] L = .ok (.more (encs (mirs xs))) (L ++ G) := by
      intro xs sl ctx L i ρ hi hw ht hl
      obtain ⟨G, e⟩ := loop_map (step := turnC cfg (run cfg n) (calls cfg n).2 (.name i) [i] [] (.call 61 [.var i]) ρ) (toD := enc) (g := fun x => enc (mir x)) (ks := xs) (fun x m acc L ha => by
        obtain ⟨s, hs⟩ := okBs_mem2 hw m
        obtain ⟨G, e⟩ := ih1 x _ L hs (by have := tds_mem m; omega)
        have hm : acc.length < most := by unfold most; omega
        exact ⟨G, by simp [turnC_def, hi, e, hm]⟩) [] L (by simp; omega)
      refine ⟨G, ?_⟩
      rw [encs_map xs, encs_map (mirs xs), mirs_map, List.map_map]
      simp only [List.nil_append] at e
      exact e
    refine ⟨fun x ctx L ho hn => ?_, fun x s ctx L ho hn => ?_⟩
    · rw [run_succ, runDef_of h61 rfl]
      cases x with
      | stop k => exact ⟨[], by simp [Lib.mirrored, enc, mir]⟩
      | cut t p c =>
        simp only [okS] at ho
        simp only [td] at hn
        obtain ⟨G1, e1⟩ := ih2 c _ ctx L ho.2.2 (by omega)
        obtain ⟨G2, e2⟩ := ih2 p _ ctx (L ++ G1) ho.2.1 (by omega)
        exact ⟨G1 ++ G2, by simp [Lib.mirrored, enc, mir, e1, e2]⟩
      | call j xs =>
        simp only [okS] at ho
        simp only [td] at hn
        obtain ⟨G, e⟩ := tms xs _ ctx L 5 [some (enc (.call j xs)), none, none, none, none, none] (by simp) ho.2 (by omega) (by have := okTs_len ho.2; have := W.pal j; omega)
        simp [enc] at e
        exact ⟨G ++ [.lst (encs (mirs xs))], by simp [Lib.mirrored, enc, mir, e]⟩
      | _ => simp [okS] at ho
    · rw [run_succ, runDef_of h62 rfl]
      cases x with
      | var k => exact ⟨[], by simp [Lib.mirrored_term, enc, mir]⟩
      | bind y =>
        simp only [okT] at ho
        simp only [td] at hn
        obtain ⟨G1, e1⟩ := ih1 y _ L ho (by omega)
        exact ⟨G1, by simp [Lib.mirrored_term, enc, mir, e1]⟩
      | make k xs =>
        simp only [okT] at ho
        simp only [td] at hn
        obtain ⟨G, e⟩ := tms xs _ ctx L 1 [some (enc (.make k xs)), none, none] (by simp) ho.2.2 (by omega) (by have := okTs_len ho.2.2; have := W.shl s.2 k; omega)
        simp [enc] at e
        exact ⟨G ++ [.lst (encs (mirs xs))], by simp [Lib.mirrored_term, enc, mir, e]⟩
      | mtch ss =>
        simp only [okT] at ho
        simp only [td] at hn
        obtain ⟨G, e⟩ := brs ss _ ctx L 2 [some (enc (.mtch ss)), none, none] (by simp) ho.2 (by omega) (by have := okBs_len ho.2; have := W.shn s.2; omega)
        simp [enc] at e
        exact ⟨G ++ [.lst (encs (mirs ss))], by simp [Lib.mirrored_term, enc, mir, e]⟩
      | _ => simp [okT] at ho
theorem mslots_ok (h63 : cfg.defs 63 = some Lib.mirrored_slots) {n : Nat} {sl : List Slot} {L : LH} (hl : sl.length ≤ 3) : ∃ G, run cfg (n + 2) 63 [eSlots sl] L = .ok (eSlots (mirSlots sl)) (L ++ G) := by
  obtain ⟨G, e⟩ := loop_map (step := turnC cfg (run cfg (n + 1)) (calls cfg (n + 1)).2 (.tup [.name 1, .name 2]) [1, 2] [] (.tup [.call 1 [.var 1], .var 2]) [some (eSlots sl), none, none]) (toD := eSlot) (g := fun s => eSlot (mirSlot s)) (ks := sl) (fun s m acc L ha => by
    have hm : acc.length < most := by unfold most; omega
    have ot := fun L => other_ok B (n := n) (L := L) (b := s.1)
    exact ⟨[], by simp [turnC_def, eSlot, ot, hm, mirSlot]⟩) [] L (by simp; omega)
  rw [run_succ, runDef_of h63 rfl]
  refine ⟨G ++ [.lst ((mirSlots sl).map eSlot)], ?_⟩
  simp [eSlots] at e
  simp [Lib.mirrored_slots, eSlots, e, mirSlots, Function.comp_def]
theorem mirror_loop (h63 : cfg.defs 63 = some Lib.mirrored_slots) {n : Nat} {A : LH} {r0 : Option D} : ∀ (l done : List Decl) (X : LH) (r3 r4 r5 : Option D), done.length + l.length ≤ 100 → (∀ d ∈ l, d.2.length ≤ 4 ∧ ∀ sh ∈ d.2, sh.length ≤ 3) →
    ∃ X' r3' r4' r5', loopI (turnF cfg (run cfg (n + 2)) (calls cfg (n + 2)).2 (.tup [.name 3, .name 4]) [.set 5 (.ite (.cmp .eq (.var 3) (.str 4)) (.str 14) (.str 4)), .expr (.bm .append (.var 1) [.tup [.var 5, .bf .tuple [.lc (.name 8) [8] .seq [.var 4] [] (.call 63 [.var 8])]]])]) (l.map eDecl) [r0, some (.ref A.length), none, r3, r4, r5, none, none, none] (A ++ .lst (done.map eDecl) :: X) = .ok (.more [r0, some (.ref A.length), none, r3', r4', r5', none, none, none]) (A ++ .lst ((done ++ l.map mirDecl).map eDecl) :: X')
  | [], done, X, r3, r4, r5, _, _ => ⟨X, r3, r4, r5, by simp [loopI]⟩
  | d :: l, done, X, r3, r4, r5, hl, h => by
    obtain ⟨h1, h2⟩ := h d List.mem_cons_self
    simp at hl
    obtain ⟨G, e⟩ := loop_map (step := turnC cfg (run cfg (n + 2)) (calls cfg (n + 2)).2 (.name 8) [8] [] (.call 63 [.var 8]) [r0, some (.ref A.length), none, some (.str (if d.1 then 4 else 14)), some (.tup (d.2.map eSlots)), some (.str (if d.1 then 14 else 4)), none, none, none]) (toD := eSlots) (g := fun s => eSlots (mirSlots s)) (ks := d.2) (fun s m acc L ha => by
      have hm : acc.length < most := by unfold most; omega
      obtain ⟨G, e⟩ := mslots_ok B h63 (n := n) (L := L) (h2 s m)
      exact ⟨G, by simp [turnC_def, e, hm]⟩) [] (A ++ .lst (done.map eDecl) :: X) (by simp; omega)
    obtain ⟨X', q3, q4, q5, e2⟩ := mirror_loop h63 (n := n) (A := A) (r0 := r0) l (done ++ [mirDecl d]) (X ++ (G ++ [.lst (d.2.map fun s => eSlots (mirSlots s))])) (some (.str (if d.1 then 4 else 14))) (some (.tup (d.2.map eSlots))) (some (.str (if d.1 then 14 else 4))) (by simp; omega) (fun y m => h y (List.mem_cons_of_mem _ m))
    refine ⟨X', q3, q4, q5, ?_⟩
    have hm : done.length < most := by unfold most; omega
    have ed : eDecl (mirDecl d) = .tup [.str (if d.1 then 14 else 4), .tup (d.2.map fun s => eSlots (mirSlots s))] := by
      obtain ⟨b, sh⟩ := d
      simp only [eDecl, mirDecl, List.map_map]
      cases b <;> rfl
    have at2 : ∀ (o o' : LO) (Y Z : LH), (A ++ o :: (X ++ (G ++ o' :: Z)))[A.length + (X.length + (G.length + 1))]? = some o' := fun o o' Y Z => by
      rw [List.getElem?_append_right (by omega)]
      have : A.length + (X.length + (G.length + 1)) - A.length = (X.length + G.length) + 1 := by omega
      rw [this, List.getElem?_cons_succ, List.getElem?_append_right (by omega), List.getElem?_append_right (by omega)]
      simp
    rw [List.map_cons, loopI]
    simp [ed] at e2
    have ed0 : ∀ d : Decl, eDecl d = .tup [.str (if d.1 then 4 else 14), .tup (d.2.map eSlots)] := fun d => rfl
    rw [ed0 d]
    cases hd : d.1 <;> simp [hd] at e e2 ed <;> simp [turnF_def, hd, e, bmOk, bmR, hm, at2, ed, e2, at_end, set_end]
end
end Ap

end
section
set_option linter.all false
set_option maxRecDepth 100000
set_option maxHeartbeats 1000000
/-! The law of mirrors that run alike. -/
namespace Ap
open Ev
section
variable {cfg : Cfg} (B : Base cfg) {P : Prog} {ns : List Int}
include B
theorem mirror_ok (h61 : cfg.defs 61 = some Lib.mirrored) (h62 : cfg.defs 62 = some Lib.mirrored_term) (h63 : cfg.defs 63 = some Lib.mirrored_slots) (h64 : cfg.defs 64 = some Lib.mirror) (H : Good P) {n : Nat} {L : LH} (hn : 100 ≤ n) : ∃ G, run cfg (n + 1) 64 [eProg P] L = .ok (eProg (mirP P)) (L ++ G) := by
  obtain ⟨n, rfl⟩ : ∃ m, n = m + 2 := ⟨n - 2, by omega⟩
  have h2 := H.h2
  have f5 := H.F.dec
  have f6 := H.F.dfs
  obtain ⟨G1, e1⟩ := check_ok B H.W H.F (n := n + 2) (L := L) H.hb H.h1 H.h2 (by omega)
  obtain ⟨X2, q3, q4, q5, e2⟩ := mirror_loop B h63 (n := n) (A := L ++ G1) (r0 := some (eProg P)) P.decls [] [] none none none (by simp; omega) (fun d m => by
    obtain ⟨g1, g2, g3⟩ := H.F.sha d m
    exact ⟨g2, fun sh ms => (g3 sh ms).1⟩)
  obtain ⟨G3, e3⟩ := loop_map (step := turnC cfg (run cfg (n + 2)) (calls cfg (n + 2)).2 (.tup [.name 6, .name 7]) [6, 7] [] (.tup [.call 63 [.var 6], .call 61 [.var 7]]) [some (eProg P), some (.ref (L ++ G1).length), none, q3, q4, q5, none, none, none]) (toD := eDef) (g := fun q => eDef (mirSlots q.1, mir q.2)) (ks := P.defs) (fun q m acc L ha => by
    have hm : acc.length < most := by unfold most; omega
    obtain ⟨G, e⟩ := mslots_ok B h63 (n := n) (L := L) (sl := q.1) (H.F.hea q m).1
    have t1 : td q.2 ≤ 30 := by
      have mb : q.2 ∈ bodies P := List.mem_map_of_mem m
      have := tds_mem mb
      omega
    obtain ⟨G', e'⟩ := (mirrored_ok B h61 h62 H.W (n + 2)).1 q.2 q.1 (L ++ G) (H.hb q m) (by omega)
    exact ⟨G ++ G', by simp [turnC_def, eDef, e, e', hm]⟩) [] ((L ++ G1) ++ .lst ((P.decls.map mirDecl).map eDecl) :: X2) (by simp; omega)
  rw [run_succ, runDef_of h64 rfl]
  have i0 : ∀ L, idxR L (eProg P) (.int 0) = some (.tup (P.decls.map eDecl)) := fun L => rfl
  have i1 : ∀ L, idxR L (eProg P) (.int 1) = some (.tup (P.defs.map eDef)) := fun L => rfl
  refine ⟨G1 ++ .lst ((P.decls.map mirDecl).map eDecl) :: (X2 ++ (G3 ++ [.lst (P.defs.map fun q => eDef (mirSlots q.1, mir q.2))])), ?_⟩
  have at2 : ∀ (o o' : LO) (Y Z : LH), (L ++ (G1 ++ o :: (X2 ++ (G3 ++ o' :: Z))))[L.length + (G1.length + (X2.length + (G3.length + 1)))]? = some o' := fun o o' Y Z => by
    rw [List.getElem?_append_right (by omega), List.getElem?_append_right (by omega)]
    have : L.length + (G1.length + (X2.length + (G3.length + 1))) - L.length - G1.length = (X2.length + G3.length) + 1 := by omega
    rw [this, List.getElem?_cons_succ, List.getElem?_append_right (by omega), List.getElem?_append_right (by omega)]
    simp
  simp at e2 e3
  have er : eProg (mirP P) = .tup [.tup ((P.decls.map mirDecl).map eDecl), .tup (P.defs.map fun q => eDef (mirSlots q.1, mir q.2))] := by simp [eProg, mirP, eDecls, eDefs, Function.comp_def]
  rw [er]
  have at3 : ∀ (o o' : LO) (Z : LH), (o :: (X2 ++ (G3 ++ o' :: Z)))[X2.length + (G3.length + 1)]? = some o' := fun o o' Z => by
    have : X2.length + (G3.length + 1) = (X2.length + G3.length) + 1 := by omega
    rw [this, List.getElem?_cons_succ, List.getElem?_append_right (by omega), List.getElem?_append_right (by omega)]
    simp
  simp [Lib.mirror, e1, i0, i1, e2, e3, at2, at3]
theorem there_loop (h61 : cfg.defs 61 = some Lib.mirrored) (h62 : cfg.defs 62 = some Lib.mirrored_term) (h149 : cfg.defs 149 = some Lib.step) (H : Good P) {n : Nat} (hn : 330 ≤ n) (hn2 : n ≤ 1000) {L0 : LH} {W : List (Bool × T)} {s0 : T} {F K : List D} (hF : F = (s0 :: W.map fun r => r.2).map enc) (hK : K.length = W.length)
    (ch : ∀ k, k < W.length → ∃ a r, (s0 :: W.map fun r => r.2)[k]? = some a ∧ Calm P a ∧ stepT P a = some r ∧ (s0 :: W.map fun r => r.2)[k + 1]? = some r.2 ∧ W[k]? = some r ∧ Calm P r.2) {r0 r1 r2 r6 : Option D} :
    ∀ (f k : Nat) (a : T) (G : LH) (r5 : Option D), k + f = W.length → (s0 :: W.map fun r => r.2)[k]? = some a → Calm P a →
      ∃ G' z, loopI (turnF cfg (run cfg n) (calls cfg n).2 (.name 5) [.ite (.or (.cmp .ne (.bf .repr [.var 4]) (.bf .repr [.call 61 [.idx (.var 7) (.var 5)]])) (.cmp .ne (.bf .repr [.call 61 [.var 4]]) (.bf .repr [.idx (.var 7) (.var 5)]))) [.ret (.bl false)] [], .ite (.cmp .lt (.var 5) (.bf .len [.var 8])) [.set 4 (.call 149 [.var 3, .var 4])] []]) ((List.range' k (f + 1)).map fun (i : Nat) => D.int (i : Int)) [r0, r1, r2, some (eProg (mirP P)), some (enc (mir a)), r5, r6, some (.ref L0.length), some (.ref (L0.length + 1))] (L0 ++ .lst F :: .lst K :: G)
        = .ok (.more [r0, r1, r2, some (eProg (mirP P)), some (enc (mir z)), some (.int (W.length : Nat)), r6, some (.ref L0.length), some (.ref (L0.length + 1))]) (L0 ++ .lst F :: .lst K :: G') ∧ Calm P z := by
  have kl2 : ∀ X, (L0 ++ LO.lst F :: .lst K :: X)[L0.length + 1]? = some (.lst K) := fun X => at_two
  have M := mir_good H
  intro f
  induction f with
  | zero =>
    intro k a G r5 hk ha hc
    have mc := mir_calm H.W hc
    obtain ⟨G1, e1⟩ := (mirrored_ok B h61 h62 H.W n).1 a [] (L0 ++ .lst F :: .lst K :: G) hc.1 (by have := hc.2.1; omega)
    obtain ⟨G2, e2⟩ := (mirrored_ok B h61 h62 M.W n).1 (mir a) [] (L0 ++ .lst F :: .lst K :: (G ++ G1)) mc.1 (by have := mc.2.1; omega)
    rw [mir2] at e2
    have f1 : atI F (k : Int) = some (enc a) := by rw [atI_nat, hF, List.getElem?_map, ha]; rfl
    have q1 : ∀ L, bfR cfg.tab .repr L [enc a] = _ := fun L => repr_of (hc.shown H) (by omega) (by omega)
    have q2 : ∀ L, bfR cfg.tab .repr L [enc (mir a)] = _ := fun L => repr_of (mc.shown M) (by omega) (by omega)
    have hlt : ¬ (k : Int) < (W.length : Int) := by omega
    have hkw : k = W.length := by omega
    refine ⟨G ++ G1 ++ G2, a, ?_, hc⟩
    simp at e1 e2
    rw [hkw] at hlt f1 ⊢
    simp [List.range', loopI, turnF_def, q2, f1, e1, e2, q1, hlt, at_end, kl2, hK]
  | succ f ih =>
    intro k a G r5 hk ha hc
    have mc := mir_calm H.W hc
    obtain ⟨G1, e1⟩ := (mirrored_ok B h61 h62 H.W n).1 a [] (L0 ++ .lst F :: .lst K :: G) hc.1 (by have := hc.2.1; omega)
    obtain ⟨G2, e2⟩ := (mirrored_ok B h61 h62 M.W n).1 (mir a) [] (L0 ++ .lst F :: .lst K :: (G ++ G1)) mc.1 (by have := mc.2.1; omega)
    rw [mir2] at e2
    have f1 : atI F (k : Int) = some (enc a) := by rw [atI_nat, hF, List.getElem?_map, ha]; rfl
    have q1 : ∀ L, bfR cfg.tab .repr L [enc a] = _ := fun L => repr_of (hc.shown H) (by omega) (by omega)
    have q2 : ∀ L, bfR cfg.tab .repr L [enc (mir a)] = _ := fun L => repr_of (mc.shown M) (by omega) (by omega)
    have hlt : (k : Int) < (W.length : Int) := by omega
    obtain ⟨a', r, c1, c2, c3, c4, c5, c6⟩ := ch k (by omega)
    rw [ha] at c1
    cases c1
    have c3m : stepT (mirP P) (mir a) = some (r.1, mir r.2) := by rw [mir_step H.W hc.1, c3]; rfl
    have mc6 := mir_calm H.W c6
    obtain ⟨G3, e3⟩ := step_ok B h149 M (n := n) (s := mir a) (L := L0 ++ .lst F :: .lst K :: (G ++ (G1 ++ G2))) mc.1 mc.2.1 (by have := mc.2.2; omega) (fun r' hr' => by
        rw [c3m] at hr'
        cases hr'
        exact ⟨by have := mc6.2.1; simp only; omega, by have := mc6.2.2; simp only; omega⟩) hn hn2
    rw [c3m] at e3
    obtain ⟨G4, z, e4, cz⟩ := ih (k + 1) r.2 (G ++ (G1 ++ (G2 ++ G3))) (some (.int (k : Int))) (by omega) c4 c6
    refine ⟨G4, z, ?_, cz⟩
    rw [List.range'_succ, List.map_cons, loopI]
    simp at e1 e2 e3 e4
    simp [turnF_def, q2, f1, e1, e2, q1, hlt, at_end, kl2, hK, e3, e4]
theorem law10_ok {f : Nat} (h166 : cfg.defs 166 = some Lib._law_statements) (hf : cfg.defs f = some Lib.law10) (h61 : cfg.defs 61 = some Lib.mirrored) (h62 : cfg.defs 62 = some Lib.mirrored_term) (h63 : cfg.defs 63 = some Lib.mirrored_slots) (h64 : cfg.defs 64 = some Lib.mirror) (h77 : cfg.defs 77 = some Lib.begin) (h149 : cfg.defs 149 = some Lib.step) (h168 : cfg.defs 168 = some Lib.run) {n : Nat} (hn : 330 ≤ n) (hn2 : n ≤ 900) (hl : ns.length ≤ 63) : ∃ L, run cfg (n + 2) f [.scr ns] [] = .ok (.bl true) L := by
  obtain ⟨m, rfl⟩ : ∃ m, n = m + 1 := ⟨n - 1, by omega⟩
  have e1 := box_ok B (n := m + 1) hl
  obtain ⟨s2, G2, P, e2, H⟩ := program_drawn B (n := m + 1) (ns := ns.map fun (i : Int) => (i.natAbs : Int)) (s := (0, 0, 0)) (G := []) (by omega)
  generalize HB ((ns.map fun (i : Int) => (i.natAbs : Int)).map D.int) (0, 0, 0) [] = L0 at e1 e2
  generalize HB ((ns.map fun (i : Int) => (i.natAbs : Int)).map D.int) s2 ([] ++ G2) = L1 at e2
  have M := mir_good H
  have h2' := M.h2
  obtain ⟨G3, e3⟩ := mirror_ok B h61 h62 h63 h64 H (n := m + 1) (L := L1) (by omega)
  generalize L1 ++ G3 = L2 at e3
  obtain ⟨G4, e4⟩ := check_ok B M.W M.F (n := m + 2) (L := L2) M.hb M.h1 M.h2 (by omega)
  generalize L2 ++ G4 = L3 at e4
  obtain ⟨G5, e5⟩ := mirror_ok B h61 h62 h63 h64 M (n := m + 1) (L := L3) (by omega)
  rw [mirP2] at e5
  generalize L3 ++ G5 = L4 at e5
  obtain ⟨G6, e6⟩ := statements_ok B h166 H.W (Db := 30) (n := m + 2) (M := 16) (L := L4) (fun j => H.td j) (by omega) (by omega) (by omega)
  have ch := walk_chain H.W 16 (P.body 0) H.calm
  have wl := walkT_len (P := P) 16 (P.body 0)
  obtain ⟨v0, v1, v2, v3⟩ := walk_visit H.W (walkT P 16 (P.body 0)) 16 (P.body 0) rfl H.calm
  generalize walkT P 16 (P.body 0) = W at e6 ch wl v0 v1 v2 v3
  obtain ⟨F, hF⟩ : ∃ F, F = (P.body 0 :: W.map fun r => r.2).map enc := ⟨_, rfl⟩
  obtain ⟨K, hK⟩ : ∃ K, K = W.map fun r => D.bl r.1 := ⟨_, rfl⟩
  have hF2 : enc (P.body 0) :: W.map (fun r => enc r.2) = F := by rw [hF]; simp
  rw [hF2, ← hK] at e6
  have fl : F.length = W.length + 1 := by rw [hF]; simp
  have kl : K.length = W.length := by rw [hK]; simp
  obtain ⟨G7, e7⟩ := begin_ok B h77 M (n := m + 2) (L := L4 ++ .lst F :: .lst K :: G6) (by omega)
  rw [mir_body] at e7
  obtain ⟨G8, z, e8, cz⟩ := there_loop B h61 h62 h149 H (n := m + 2) (by omega) (by omega) (L0 := L4) hF kl ch (r0 := some (.scr ns)) (r1 := some (.ref 1)) (r2 := some (eProg P)) (r6 := none) W.length 0 (P.body 0) (G6 ++ G7) none (by omega) (by simp) H.calm
  have kl2 : ∀ X, (L4 ++ LO.lst F :: .lst K :: X)[L4.length + 1]? = some (.lst K) := fun X => at_two
  have vis : ∀ k, k ≤ W.length → Visit P k (P.body 0) := fun k hk => by
    by_cases h : k = W.length
    · subst h
      cases hs : lastT W (P.body 0) with
      | stop j => exact (v1 j hs _ (Nat.le_refl _)).2
      | _ => exact (v3 (by rw [hs]; rfl)).2
    · exact (v2 k (by omega)).2
  obtain ⟨ρ', G9, e9, r6, hi⟩ := check_loop (toD := fun (i : Nat) => D.int (i : Int)) (L0 := L4 ++ [.lst F, .lst K]) (Inv := fun ρ => ∃ r6, ρ = [some (.scr ns), some (.ref 1), some (eProg P), some (eProg (mirP P)), some (enc (mir z)), some (.int (W.length : Nat)), r6, some (.ref L4.length), some (.ref (L4.length + 1))])
    (step := turnF cfg (run cfg (m + 2)) (calls cfg (m + 2)).2 (.name 6) [.ite (.and (.cmp .le (.var 6) (.bf .len [.var 8])) (.cmp .ne (.bf .repr [.call 168 [.var 3, .var 6]]) (.bf .repr [.call 168 [.var 2, .var 6]]))) [.ret (.bl false)] []]) [0, 1, 3, W.length]
    (fun k mk ρ G hi => by
      obtain ⟨r6, rfl⟩ := hi
      by_cases hk : k ≤ W.length
      · have hv := vis k hk
        obtain ⟨mv, mo⟩ := mir_visit H.W k _ hv
        have mv2 := mv
        rw [← mir_body] at mv mo
        obtain ⟨Ga, ea⟩ := run_ok B M h168 (n := m + 1) (m := k) hn (by omega) (by omega) (L := L4 ++ .lst F :: .lst K :: G) mv
        obtain ⟨Gb, eb⟩ := run_ok B H h168 (n := m + 1) (m := k) hn (by omega) (by omega) (L := L4 ++ .lst F :: .lst K :: (G ++ Ga)) hv
        rw [mo] at ea
        have sh : ∀ L, bfR cfg.tab .repr L [eOut (outT P k (P.body 0))] = _ := fun L => repr_of (shown_eOut hv (by omega)) (by omega) (by omega)
        have hk' : (k : Int) ≤ (W.length : Int) := by omega
        refine ⟨_, G ++ (Ga ++ Gb), ?_, ⟨some (.int (k : Int)), rfl⟩⟩
        simp at ea eb
        simp [turnF_def, kl2, kl, hk', hk, ea, eb, sh]
      · have hk' : ¬ (k : Int) ≤ (W.length : Int) := by omega
        refine ⟨_, G, ?_, ⟨some (.int (k : Int)), rfl⟩⟩
        simp [turnF_def, kl2, kl, hk', hk])
    [some (.scr ns), some (.ref 1), some (eProg P), some (eProg (mirP P)), some (enc (mir z)), some (.int (W.length : Nat)), none, some (.ref L4.length), some (.ref (L4.length + 1))] G8 ⟨_, rfl⟩
  subst hi
  have rp : ∀ L, bfR cfg.tab .repr L [eProg P] = _ := fun L => repr_of (shown_prog H) (by omega) (by omega)
  have src : ∀ L, srcR .rng1 L [.int ((W.length : Int) + 1)] = some (.items ((List.range' 0 (W.length + 1)).map fun (i : Nat) => D.int (i : Int))) := fun L => by
    rw [← cast_succ, srcR_rng (by omega), List.range_eq_range']
  have mcz := mir_calm H.W cz
  rw [run_succ, runDef_of hf rfl]
  simp at e6 e7 e8 e9
  cases hz : mir z with
  | stop k =>
    rw [hz] at e8 e9 mcz
    obtain ⟨Ge, ee⟩ := step_ok B h149 M (n := m + 2) (s := .stop k) (L := L4 ++ .lst F :: .lst K :: G9) mcz.1 mcz.2.1 (by have := mcz.2.2; omega) (fun r hr => by
      rw [stop_none] at hr; cases hr) (by omega) (by omega)
    rw [stop_none] at ee
    simp [enc] at ee e8 e9
    exact ⟨L4 ++ LO.lst F :: .lst K :: (G9 ++ Ge), by simp [Lib.law10, e1, e2, e3, e4, e5, rp, e6, e7, at_end, fl, src, e8, kl2, kl, e9, ee]⟩
  | cut t p c =>
    rw [hz] at e8 e9
    simp [enc] at e8 e9
    exact ⟨L4 ++ LO.lst F :: .lst K :: G9, by simp [Lib.law10, e1, e2, e3, e4, e5, rp, e6, e7, at_end, fl, src, e8, kl2, kl, e9]⟩
  | call j xs =>
    rw [hz] at e8 e9
    simp [enc] at e8 e9
    exact ⟨L4 ++ LO.lst F :: .lst K :: G9, by simp [Lib.law10, e1, e2, e3, e4, e5, rp, e6, e7, at_end, fl, src, e8, kl2, kl, e9]⟩
  | _ => rw [hz] at mcz; simp [Calm, okS] at mcz
end
end Ap

end
section
set_option linter.all false
set_option maxRecDepth 100000
set_option maxHeartbeats 2000000
/-! Chains of statements, and their forms. -/
namespace Ap
open Ev
section
variable {P Q : Prog}
theorem mapZ_td {α : Type} {g : α → T → Option T} {k : Nat} : ∀ {xs ys : List T} {sl : List α}, (∀ s x y, x ∈ xs → g s x = some y → td y ≤ k) → mapZ g sl xs = some ys → tds ys ≤ k
  | [], ys, sl, hg, h => by rw [mapZ_nil h]; simp [tds]
  | x :: xs, ys, [], hg, h => by
    unfold mapZ at h
    injection h with h
    subst h
    simp [tds]
  | x :: xs, ys, s :: r, hg, h => by
    obtain ⟨y, ys', g1, g2, rfl⟩ := mapZ_cons h
    have a := hg s x y List.mem_cons_self g1
    have b := mapZ_td (fun s x y m => hg s x y (List.mem_cons_of_mem _ m)) g2
    simp only [tds]
    omega
theorem iots_mem' {xs : List T} {x : T} (m : x ∈ xs) : iot x ≤ iots xs ∧ td x ≤ tds xs := by
  obtain ⟨k, hk⟩ := List.getElem?_of_mem m
  exact iots_mem hk
theorem oms_mem' {xs : List T} {x : T} (m : x ∈ xs) : om x ≤ oms xs ∧ td x ≤ tds xs := by
  obtain ⟨k, hk⟩ := List.getElem?_of_mem m
  exact oms_mem hk
theorem pl_td : ∀ (f : Nat), (∀ n s r, plS P f n s = some r → td r ≤ 2 * om s + td s) ∧ (∀ n t s r, plT P f n t s = some r → td r ≤ 2 * iot s + td s)
  | 0 => ⟨fun n s r h => (by cases h), fun n t s r h => (by cases h)⟩
  | f + 1 => by
    obtain ⟨i1, i2⟩ := pl_td f
    refine ⟨fun n s r h => ?_, fun n t s r h => ?_⟩
    · have c := plS_cases h
      cases c with
      | pull _ q x r e1 e2 e3 =>
        obtain ⟨b1, b2, y, b3, b4, b5⟩ := lifted_om e1
        have a := i2 _ _ _ _ e2
        rw [b3] at a
        simp only [iot, td] at a
        have b := i1 _ _ _ e3
        have m := td_mkCut (s := q.1) (x := x) (y := r)
        omega
      | cut t p c p' c' e1 e2 e3 =>
        have a := i2 _ _ _ _ e2
        have b := i2 _ _ _ _ e3
        simp only [om, td]
        omega
      | call j xs ys e1 e2 =>
        have a := mapZ_td (k := 2 * iots xs + tds xs) (fun s x y m hh => by have := i2 _ _ _ _ hh; have := iots_mem' m; omega) e2
        simp only [om, td]
        omega
      | other _ e1 e2 e3 => omega
    · have c := plT_cases h
      cases c with
      | bind s r e1 =>
        have a := i1 _ _ _ e1
        simp only [iot, td]
        omega
      | make k xs ys e1 =>
        have a := mapZ_td (k := 2 * iots xs + tds xs) (fun s x y m hh => by have := i2 _ _ _ _ hh; have := iots_mem' m; omega) e1
        simp only [iot, td]
        omega
      | mtch xs ys e1 =>
        have a := mapZ_td (k := 2 * oms xs + tds xs) (fun s x y m hh => by have := i1 _ _ _ hh; have := oms_mem' m; omega) e1
        simp only [iot, td]
        omega
      | other _ e1 e2 e3 => omega
/-! chains -/
def Calm2 (P : Prog) (a : T) : Prop := Calm P a ∧ sz a ≤ 400
def small2 (x : T) : Bool := small x && decide (sz x ≤ 400)
def walk2 (P : Prog) : Nat → T → List (Bool × T)
  | 0, _ => []
  | n + 1, s => match stepT P s with
    | some r => if small2 r.2 then r :: walk2 P n r.2 else []
    | none => []
theorem walk2_len : ∀ (n : Nat) (s : T), (walk2 P n s).length ≤ n
  | 0, s => Nat.le_refl _
  | n + 1, s => by
    simp only [walk2]
    split
    · split
      · rename_i r _ _
        have := walk2_len n r.2
        simp; omega
      · simp
    · simp
def Chain (P : Prog) : T → List (Bool × T) → Prop
  | s, [] => Calm2 P s
  | s, r :: w => Calm2 P s ∧ stepT P s = some r ∧ Chain P r.2 w
theorem Chain.head {s : T} {w : List (Bool × T)} (h : Chain P s w) : Calm2 P s := by
  cases w with
  | nil => exact h
  | cons r w => exact h.1
theorem walk2_chain (W : PWf P) : ∀ (n : Nat) (s : T), Calm2 P s → Chain P s (walk2 P n s)
  | 0, s, h => h
  | n + 1, s, h => by
    simp only [walk2]
    split
    · rename_i r hr
      split
      · rename_i hm
        unfold small2 at hm
        simp only [Bool.and_eq_true, decide_eq_true_eq] at hm
        exact ⟨h, hr, walk2_chain W n r.2 ⟨small_calm (step_keeps W h.1.1 hr) hm.1, hm.2⟩⟩
      · exact h
    · exact h
theorem chain_visit : ∀ (w : List (Bool × T)) (s : T), Chain P s w → ∀ n, lastT w s = .stop n → ∀ f, w.length ≤ f → outT P f s = some (n, w.length) ∧ Visit P f s
  | [], s, h, n, hn, f, hf => by
    simp only [lastT] at hn
    subst hn
    cases f with
    | zero => exact ⟨rfl, h.1⟩
    | succ f => exact ⟨rfl, h.1, .inl rfl⟩
  | r :: w, s, h, n, hn, f, hf => by
    obtain ⟨h1, h2, h3⟩ := h
    simp only [lastT] at hn
    simp only [List.length_cons] at hf ⊢
    obtain ⟨f, rfl⟩ : ∃ g, f = g + 1 := ⟨f - 1, by omega⟩
    obtain ⟨q1, q2⟩ := chain_visit w r.2 h3 n hn f (by omega)
    rw [outT_step h2, q1]
    exact ⟨rfl, h1.1, .inr ⟨r, h2, q2⟩⟩
/-- the forms of a chain's statements: a chain of the program of the forms -/
def FCh (Q : Prog) : T → List (Bool × T) → Prop
  | z, [] => Calm Q z
  | z, r :: v => Calm Q z ∧ (r.1 = true → r.2 = z) ∧ (r.1 = false → stepT Q z = some (false, r.2)) ∧ FCh Q r.2 v
def falses : List (Bool × T) → Nat
  | [] => 0
  | r :: v => (if r.1 then 0 else 1) + falses v
theorem FCh.head {z : T} {v : List (Bool × T)} (h : FCh Q z v) : Calm Q z := by
  cases v with
  | nil => exact h
  | cons r w => exact h.1
theorem fch_visit : ∀ (v : List (Bool × T)) (z : T), FCh Q z v → ∀ n, lastT v z = .stop n → ∀ f, falses v ≤ f → outT Q f z = some (n, falses v) ∧ Visit Q f z
  | [], s, h, n, hn, f, hf => by
    simp only [lastT] at hn
    subst hn
    cases f with
    | zero => exact ⟨rfl, h⟩
    | succ f => exact ⟨rfl, h, .inl rfl⟩
  | (b, z') :: v, z, h, n, hn, f, hf => by
    obtain ⟨h1, h2, h3, h4⟩ := h
    simp only [lastT] at hn
    cases b with
    | true =>
      have e := h2 rfl
      simp only at e
      subst e
      simp only [falses, if_true, Nat.zero_add] at hf ⊢
      exact fch_visit v _ h4 n hn f hf
    | false =>
      have e := h3 rfl
      simp only [falses, Bool.false_eq_true, if_false] at hf ⊢
      obtain ⟨f, rfl⟩ : ∃ g, f = g + 1 := ⟨f - 1, by omega⟩
      obtain ⟨q1, q2⟩ := fch_visit v z' h4 n hn f (by omega)
      rw [outT_step e, q1]
      exact ⟨by simp [Nat.add_comm], h1, .inr ⟨_, e, q2⟩⟩
theorem falses_count : ∀ (v : List (Bool × T)), falses v + (v.map fun r => D.bl r.1).countP (fun y => y.eqv (.bl true)) = v.length
  | [] => rfl
  | (b, z) :: v => by
    have := falses_count v
    simp only [falses, List.map_cons, List.countP_cons, List.length_cons]
    cases b
    · have e : (D.bl false).eqv (.bl true) = false := by simp [D.eqv]
      simp only [e, Bool.false_eq_true, if_false]
      omega
    · have e : (D.bl true).eqv (.bl true) = true := by simp [D.eqv]
      simp only [e, if_true]
      omega
/-- the forms, one for each -/
def FList (P : Prog) (g : Nat) : List T → List T → Prop
  | [], [] => True
  | s :: l, z :: m => plS P g 0 s = some z ∧ FList P g l m
  | _, _ => False
theorem chain_forms (W : PWf P) {fb g : Nat} (F : Forms P Q fb) : ∀ (w : List (Bool × T)) (s z : T) (zs : List T), Chain P s w → FList P g (s :: w.map fun r => r.2) (z :: zs) → (∀ y ∈ z :: zs, td y ≤ 60 ∧ sz y ≤ 1500) →
    ∃ v, v.map (fun r => r.2) = zs ∧ v.map (fun r => r.1) = w.map (fun r => r.1) ∧ FCh Q z v
  | [], s, z, zs, hc, hf, hs => by
    obtain ⟨h1, h2⟩ := hf
    cases zs with
    | nil =>
      refine ⟨[], rfl, rfl, ?_⟩
      obtain ⟨a, b⟩ := hs z List.mem_cons_self
      exact ⟨okS_head F.hd F.hp F.hl _ _ ((pl_ok W g).1 [] s z hc.1.1 h1), a, b⟩
    | cons y ys => exact h2.elim
  | r :: w, s, z, zs, hc, hf, hs => by
    obtain ⟨c1, c2, c3⟩ := hc
    obtain ⟨h1, h2⟩ := hf
    cases zs with
    | nil => exact h2.elim
    | cons y ys =>
      obtain ⟨v, v1, v2, v3⟩ := chain_forms W F w r.2 y ys c3 h2 (fun u m => hs u (List.mem_cons_of_mem _ m))
      obtain ⟨g', z', p1, p2, p3⟩ := form_step W F c1.1.1 c2 h1
      have e := plS_det p1 h2.1
      subst e
      obtain ⟨a, b⟩ := hs z List.mem_cons_self
      exact ⟨(r.1, z') :: v, by simp [v1], by simp [v2], ⟨okS_head F.hd F.hp F.hl _ _ ((pl_ok W g).1 [] s z c1.1.1 h1), a, b⟩, p2, p3, v3⟩
end
end Ap

end
section
set_option linter.all false
set_option maxRecDepth 100000
set_option maxHeartbeats 2000000
/-! The law of runs of plain forms: its parts. -/
namespace Ap
open Ev
section
variable {cfg : Cfg} (B : Base cfg) {P Q : Prog}
include B
theorem statements2_loop (W : PWf P) {Db n : Nat} (hb : ∀ j, td (P.body j) ≤ Db) (hn : 2 * 60 + Db + 7 ≤ n) {L0 : LH} {r1 : Option D} :
    ∀ (m k : Nat) (s : T) (S K : List D) (G : LH) (r2 r5 : Option D), S.length = k + 1 → S[k]? = some (enc s) → K.length = k → k + m ≤ 1000 → okS P [] s → td s ≤ 60 →
      ∃ G' r2' r5', (loopI (turnF cfg (run cfg n) (calls cfg n).2 (.name 2) [.set 5 (.call 163 [.var 0, .idx (.var 3) (.var 2)]), .ite (.or (.isn false (.var 5)) (.or (.not (.call 165 [.idx (.var 5) (.int 1)])) (.cmp .gt (.call 95 [.idx (.var 5) (.int 1)]) (.int 400)))) [.brk] [], .expr (.bm .append (.var 4) [.idx (.var 5) (.int 0)]), .expr (.bm .append (.var 3) [.idx (.var 5) (.int 1)])])
        ((List.range' k m).map fun (i : Nat) => D.int (i : Int)) [some (eProg P), r1, r2, some (.ref L0.length), some (.ref (L0.length + 1)), r5] (L0 ++ .lst S :: .lst K :: G)).bind endF
        = .ok (.nx [some (eProg P), r1, r2', some (.ref L0.length), some (.ref (L0.length + 1)), r5']) (L0 ++ .lst (S ++ (walk2 P m s).map fun r => enc r.2) :: .lst (K ++ (walk2 P m s).map fun r => .bl r.1) :: G')
  | 0, k, s, S, K, G, r2, r5, _, _, _, _, _, _ => ⟨G, r2, r5, by simp [loopI, walk2]⟩
  | m + 1, k, s, S, K, G, r2, r5, hS, hk, hK, hm, ho, hd => by
    obtain ⟨G1, e1⟩ := stepped_ok B W (Db := Db) (n := n) (L := L0 ++ .lst S :: .lst K :: G) hb ho (by omega)
    have e3 : (L0 ++ LO.lst S :: .lst K :: G) ++ G1 = L0 ++ LO.lst S :: .lst K :: (G ++ G1) := by simp
    rw [e3] at e1
    simp only [List.range'_succ, List.map_cons, loopI, walk2]
    have a1 : atI S (k : Int) = some (enc s) := by rw [atI_nat, hk]
    cases hs : stepT P s with
    | none =>
      rw [hs] at e1
      simp only at e1
      exact ⟨G ++ G1, some (.int k), some .non, by simp [turnF_def, at_end, a1, e1]⟩
    | some r =>
      rw [hs] at e1
      simp only at e1
      have ok2 := step_keeps W ho hs
      have td2 := td_step hb ho hs
      have wd := okS_wid W r.2 _ ok2
      obtain ⟨G2, e2⟩ := small_ok B (n := n) (x := r.2) (L := L0 ++ .lst S :: .lst K :: (G ++ G1)) wd (by omega)
      have e4 : (L0 ++ LO.lst S :: .lst K :: (G ++ G1)) ++ G2 = L0 ++ LO.lst S :: .lst K :: (G ++ G1 ++ G2) := by simp
      rw [e4] at e2
      have m1 : K.length < most := by unfold most; omega
      have m2 : S.length < most := by unfold most; omega
      rcases Bool.eq_false_or_eq_true (small r.2) with h | h
      · rw [h] at e2
        have h60 : td r.2 ≤ 60 := by
          unfold small at h
          simp only [Bool.and_eq_true, decide_eq_true_eq] at h
          exact h.1
        obtain ⟨G3, e5⟩ := size_ok B n r.2 (L0 ++ .lst S :: .lst K :: (G ++ G1 ++ G2)) wd (by omega)
        simp at e5
        by_cases h4 : sz r.2 ≤ 400
        · obtain ⟨G4, q2, q5, e6⟩ := statements2_loop W hb hn (r1 := r1) (L0 := L0) m (k + 1) r.2 (S ++ [enc r.2]) (K ++ [.bl r.1]) (G ++ (G1 ++ (G2 ++ G3))) (some (.int k)) (some (.tup [.bl r.1, enc r.2])) (by simp; omega) (by rw [List.getElem?_append_right (by omega), hS]; simp) (by simp; omega) (by omega) ok2 h60
          refine ⟨G4, q2, q5, ?_⟩
          have s2 : small2 r.2 = true := by unfold small2; rw [h]; simp [h4]
          have c4 : ¬ (400 : Int) < ((sz r.2 : Nat) : Int) := by omega
          simp at e2 e6
          simp [turnF_def, at_end, at_two, set_end, set_two, a1, e1, e2, e5, c4, bmOk, bmR, m1, m2, s2]
          simp [e6]
        · have s2 : small2 r.2 = false := by unfold small2; rw [h]; simp [h4]
          have c4 : (400 : Int) < ((sz r.2 : Nat) : Int) := by omega
          refine ⟨G ++ (G1 ++ (G2 ++ G3)), some (.int k), some (.tup [.bl r.1, enc r.2]), ?_⟩
          simp at e2
          simp [turnF_def, at_end, a1, e1, e2, e5, c4, s2]
      · rw [h] at e2
        have s2 : small2 r.2 = false := by unfold small2; rw [h]; rfl
        refine ⟨G ++ G1 ++ G2, some (.int k), some (.tup [.bl r.1, enc r.2]), ?_⟩
        simp [turnF_def, at_end, a1, e1, s2]
        simp at e2
        simp [e2]
theorem statements2_ok (h204 : cfg.defs 204 = some Lib._law_statements2) (W : PWf P) {Db n M : Nat} (hb : ∀ j, td (P.body j) ≤ Db) (hD : Db ≤ 60) (hn : 2 * 60 + Db + 8 ≤ n) (hM : M ≤ 900) {L : LH} :
    ∃ G, run cfg n 204 [eProg P, .int M] L = .ok (.tup [.ref L.length, .ref (L.length + 1)]) (L ++ .lst (enc (P.body 0) :: (walk2 P M (P.body 0)).map fun r => enc r.2) :: .lst ((walk2 P M (P.body 0)).map fun r => .bl r.1) :: G) := by
  obtain ⟨n, rfl⟩ : ∃ m, n = m + 1 := ⟨n - 1, by omega⟩
  rw [run_succ, runDef_of h204 rfl]
  obtain ⟨d, hd, _, e0⟩ := prog_params B W.one
  have ok0 : okS P [] (P.body 0) := by
    have := W.bod 0 W.one
    rwa [W.nop] at this
  obtain ⟨G, q2, q5, e⟩ := statements2_loop B W (n := n) hb (by omega) (L0 := L) (r1 := some (.int M)) M 0 (P.body 0) [enc (P.body 0)] [] [] none none rfl rfl rfl (by omega) ok0 (by have := hb 0; omega)
  have src : ∀ L, srcR .rng1 L [.int (M : Int)] = _ := fun L => srcR_rng (by omega)
  rw [← List.range_eq_range'] at e
  refine ⟨G, ?_⟩
  simp [eProg, eDefs] at e
  simp [Lib._law_statements2, eProg, eDefs, hd, eDef, e0, src, e]
theorem law_plain_program (h197 : cfg.defs 197 = some Lib._law_plain_statement) (h198 : cfg.defs 198 = some Lib._law_plain_term) (h199 : cfg.defs 199 = some Lib._law_plain_program) (H : Good P) {N : Nat} (hN : 600 ≤ N) {L : LH} : (∀ d ∈ P.defs, ∃ r, plS P N d.1.length d.2 = some r) ∧ ∃ G, run cfg (N + 1) 199 [eProg P] L = .ok (eProg (plP P N)) (L ++ G) := by
  have one : ∀ d ∈ P.defs, ∀ L, ∃ r G, plS P N d.1.length d.2 = some r ∧ run cfg N 197 [eProg P, enc d.2, .int (d.1.length : Int)] L = .ok (enc r) (L ++ G) := fun d m L => by
    have ho := H.hb d m
    have mb : d.2 ∈ bodies P := List.mem_map_of_mem m
    have h2 := H.h2
    have h1 := H.h1
    have t1 := tds_mem mb
    have z1 : sz d.2 ≤ szs (bodies P) := by
      have : ∀ (l : List T) (x : T), x ∈ l → sz x ≤ szs l := by
        intro l
        induction l with
        | nil => intro x m; simp at m
        | cons y l ih =>
          intro x m
          simp only [szs]
          rcases List.mem_cons.mp m with m | m
          · subst m; omega
          · have := ih x m; omega
      exact this _ _ mb
    have o1 := om_sz H.W d.2 _ ho
    exact (law_plain B h197 h198 H.W N N (Nat.le_refl _)).1 d.2 d.1 L ho (by omega)
  refine ⟨fun d m => let ⟨r, _, h, _⟩ := one d m []; ⟨r, h⟩, ?_⟩
  have f6 := H.F.dfs
  obtain ⟨G, e⟩ := loop_map (step := turnC cfg (run cfg N) (calls cfg N).2 (.tup [.name 1, .name 2]) [1, 2] [] (.tup [.var 1, .call 197 [.var 0, .var 2, .bf .len [.var 1]]]) [some (eProg P), none, none]) (toD := eDef) (g := fun d => eDef (d.1, (plS P N d.1.length d.2).getD d.2)) (ks := P.defs) (fun d m acc L ha => by
    obtain ⟨r, G, h1, h2⟩ := one d m L
    have hm : acc.length < most := by unfold most; omega
    have es : bfR cfg.tab .len L [eSlots d.1] = .ok (.int (d.1.length : Int)) L := by simp [eSlots]
    exact ⟨G, by simp [turnC_def, eDef, es, h1, h2, hm]⟩) [] L (by simp; omega)
  rw [run_succ, runDef_of h199 rfl]
  have i0 : ∀ L, idxR L (eProg P) (.int 0) = some (eDecls P.decls) := fun L => rfl
  have i1 : ∀ L, idxR L (eProg P) (.int 1) = some (eDefs P.defs) := fun L => rfl
  have sD : ∀ L, srcR .seq L [eDefs P.defs] = some (.items (P.defs.map eDef)) := fun L => rfl
  have er : eProg (plP P N) = .tup [eDecls P.decls, .tup (P.defs.map fun d => eDef (d.1, (plS P N d.1.length d.2).getD d.2))] := by simp [eProg, plP, eDefs, Function.comp_def]
  rw [er]
  refine ⟨G ++ [.lst (P.defs.map fun d => eDef (d.1, (plS P N d.1.length d.2).getD d.2))], ?_⟩
  simp at e
  simp [Lib._law_plain_program, i0, i1, sD, e]
omit B in
theorem forms_loop {step : D → List D → LH → R (Step (List D) Unit)} {r g : Nat} {al : List T} : ∀ (ks : List T) (i : Nat), al.drop i = ks → (∀ s ∈ ks, ∀ (acc : List D) (L : LH), acc.length ≤ 1000 → ∃ z G, plS P g 0 s = some z ∧ step (enc s) acc L = .ok (.more (acc ++ [enc z])) (L ++ G)) → ∀ (acc : List D) (L : LH), L[r]? = some (.lst (al.map enc)) → acc.length + ks.length ≤ 1000 →
    ∃ zs G, FList P g ks zs ∧ loopL step r (ks.length + 1) i acc L = .ok (.more (acc ++ zs.map enc)) (L ++ G)
  | [], i, hd, h, acc, L, hr, hl => ⟨[], [], trivial, by
    have : (al.map enc)[i]? = none := List.getElem?_eq_none (by rw [List.length_map]; exact List.drop_eq_nil_iff.mp hd)
    simp only [loopL, hr, this]
    simp⟩
  | k :: ks, i, hd, h, acc, L, hr, hl => by
    obtain ⟨g1, g2⟩ := drop_cons hd
    have g3 : (al.map enc)[i]? = some (enc k) := by rw [List.getElem?_map, g1]; rfl
    obtain ⟨z, G1, e0, e1⟩ := h k List.mem_cons_self acc L (by simp at hl; omega)
    obtain ⟨zs, G2, f, e2⟩ := forms_loop ks (i + 1) g2 (fun k m => h k (List.mem_cons_of_mem _ m)) (acc ++ [enc z]) (L ++ G1) (by rw [List.getElem?_append_left (List.getElem?_eq_some_iff.mp hr).1]; exact hr) (by simp at hl ⊢; omega)
    refine ⟨z :: zs, G1 ++ G2, ⟨e0, f⟩, ?_⟩
    rw [List.length_cons, loopL, hr]
    simp only
    rw [g3]
    simp only [e1, bind_ok, e2]
    simp
theorem loop8 (M : Good Q) (h149 : cfg.defs 149 = some Lib.step) {n : Nat} (hn : 330 ≤ n) (hn2 : n ≤ 1000) {H : LH} {rK rZ : Nat} {K : List D} {Z : List T} (hK : ∀ X, (H ++ X)[rK]? = some (.lst K)) (hZ : ∀ X, (H ++ X)[rZ]? = some (.lst (Z.map enc))) (ht : ∀ y ∈ Z, thirdT Q 0 y = none) {r0 r1 r2 r3 r6 r9 : Option D} :
    ∀ (v : List (Bool × T)) (z : T) (k : Nat) (G : LH) (r8 : Option D), FCh Q z v → Z.drop k = z :: v.map (fun r => r.2) → K.drop k = v.map (fun r => .bl r.1) →
      ∃ G' ρ', loopI (turnF cfg (run cfg n) (calls cfg n).2 (.name 8) [.ite (.not (.idx (.var 10) (.var 8))) [.set 7 (.call 149 [.var 4, .var 7])] [], .ite (.or (.cmp .ne (.bf .repr [.var 7]) (.bf .repr [.idx (.var 5) (.bin .add (.var 8) (.int 1))])) (.isn true (.call 161 [.var 4, .var 7, .int 0]))) [.ret (.bl false)] []]) ((List.range' k v.length).map fun (i : Nat) => D.int (i : Int)) [r0, r1, r2, r3, some (eProg Q), some (.ref rZ), r6, some (enc z), r8, r9, some (.ref rK), none] (H ++ G) = .ok (.more ρ') (H ++ G')
  | [], z, k, G, r8, hf, h1, h2 => ⟨G, _, by simp [loopI] <;> rfl⟩
  | (b, z') :: v, z, k, G, r8, hf, h1, h2 => by
    obtain ⟨f1, f2, f3, f4⟩ := hf
    obtain ⟨g1, g2⟩ := drop_cons h1
    simp only [List.map_cons] at g2 h2
    obtain ⟨g3, g4⟩ := drop_cons g2
    obtain ⟨g5, g6⟩ := drop_cons h2
    have c' := f4.head
    have a1 : atI K (k : Int) = some (.bl b) := by rw [atI_nat, g5]
    have a2 : atI (Z.map enc) ((k : Int) + 1) = some (enc z') := by rw [← cast_succ, atI_nat, List.getElem?_map, g3]; rfl
    have q : ∀ L, bfR cfg.tab .repr L [enc z'] = _ := fun L => repr_of (c'.shown M) (by omega) (by omega)
    have t3 := ht z' (List.mem_of_getElem? g3)
    cases b with
    | true =>
      have e := f2 rfl
      simp only at e
      subst e
      obtain ⟨G1, e1⟩ := third_ok B M.W (N := 0) (n := n) (L := H ++ G) c'.1 (by have := c'.2.1; omega)
      rw [t3] at e1
      obtain ⟨G2, ρ', e2⟩ := loop8 M h149 hn hn2 hK hZ ht (r0 := r0) (r1 := r1) (r2 := r2) (r3 := r3) (r6 := r6) (r9 := r9) v z' (k + 1) (G ++ G1) (some (.int (k : Int))) f4 g2 g6
      refine ⟨G2, ρ', ?_⟩
      rw [List.length_cons, List.range'_succ, List.map_cons, loopI]
      simp at e1 e2
      simp [turnF_def, hK, hZ, a1, a2, q, e1, e2]
    | false =>
      have e := f3 rfl
      simp only at e
      obtain ⟨G0, e0⟩ := step_ok B h149 M (n := n) (s := z) (L := H ++ G) f1.1 f1.2.1 (by have := f1.2.2; omega) (fun r hr => by
        rw [e] at hr
        cases hr
        exact ⟨by have := c'.2.1; simp only at this ⊢; omega, by have := c'.2.2; simp only at this ⊢; omega⟩) hn hn2
      rw [e] at e0
      obtain ⟨G1, e1⟩ := third_ok B M.W (N := 0) (n := n) (L := H ++ (G ++ G0)) c'.1 (by have := c'.2.1; omega)
      rw [t3] at e1
      obtain ⟨G2, ρ', e2⟩ := loop8 M h149 hn hn2 hK hZ ht (r0 := r0) (r1 := r1) (r2 := r2) (r3 := r3) (r6 := r6) (r9 := r9) v z' (k + 1) (G ++ (G0 ++ G1)) (some (.int (k : Int))) f4 g2 g6
      refine ⟨G2, ρ', ?_⟩
      rw [List.length_cons, List.range'_succ, List.map_cons, loopI]
      simp at e0 e1 e2
      simp [turnF_def, hK, hZ, a1, a2, q, e0, e1, e2]
end
end Ap

end
section
set_option linter.all false
set_option maxRecDepth 100000
set_option maxHeartbeats 4000000
/-! The law of runs of plain forms. -/
namespace Ap
open Ev
theorem FList.len {P : Prog} {g : Nat} : ∀ {l m : List T}, FList P g l m → m.length = l.length
  | [], [], _ => rfl
  | s :: l, z :: m, h => by simp [FList.len h.2]
  | [], _ :: _, h => h.elim
  | _ :: _, [], h => h.elim
theorem FList.mem {P : Prog} {g : Nat} : ∀ {l m : List T}, FList P g l m → ∀ z ∈ m, ∃ s ∈ l, plS P g 0 s = some z
  | [], [], _, z, h => by simp at h
  | s :: l, y :: m, h, z, hz => by
    rcases List.mem_cons.mp hz with e | e
    · subst e; exact ⟨s, List.mem_cons_self, h.1⟩
    · obtain ⟨s', m', p⟩ := FList.mem h.2 z e
      exact ⟨s', List.mem_cons_of_mem _ m', p⟩
  | [], _ :: _, h, z, hz => h.elim
  | _ :: _, [], h, z, hz => h.elim
theorem FList.get {P : Prog} {g : Nat} : ∀ {l m : List T} {k : Nat} {s : T}, FList P g l m → l[k]? = some s → ∃ z, m[k]? = some z ∧ plS P g 0 s = some z
  | s :: l, z :: m, 0, s', h, e => by simp at e; subst e; exact ⟨z, rfl, h.1⟩
  | s :: l, z :: m, k + 1, s', h, e => by simpa using FList.get h.2 (by simpa using e)
  | [], [], k, s', h, e => by simp at e
  | [], _ :: _, k, s', h, e => h.elim
  | _ :: _, [], k, s', h, e => h.elim
theorem chain_mem {P : Prog} : ∀ {w : List (Bool × T)} {s : T}, Chain P s w → ∀ a ∈ s :: w.map (fun r => r.2), Calm2 P a
  | [], s, h, a, m => by simp at m; subst m; exact h
  | r :: w, s, h, a, m => by
    rcases List.mem_cons.mp m with e | e
    · subst e; exact h.1
    · exact chain_mem h.2.2 a e
theorem Good.calm2 {P : Prog} (H : Good P) : Calm2 P (P.body 0) := by
  refine ⟨H.calm, ?_⟩
  have h1 := H.h1
  have hg : P.defs[0]? = some (P.defs[0]'H.W.one) := List.getElem?_eq_getElem H.W.one
  have e : P.body 0 = (P.defs[0]'H.W.one).2 := by unfold Prog.body; rw [hg]
  have mb : P.body 0 ∈ bodies P := by rw [e]; exact List.mem_map_of_mem (List.getElem_mem H.W.one)
  have : ∀ (l : List T) (x : T), x ∈ l → sz x ≤ szs l := by
    intro l
    induction l with
    | nil => intro x m; simp at m
    | cons y l ih =>
      intro x m
      simp only [szs]
      rcases List.mem_cons.mp m with m | m
      · subst m; omega
      · have := ih x m; omega
  have := this _ _ mb
  omega
theorem sz_mem : ∀ {l : List T} {x : T}, x ∈ l → sz x ≤ szs l
  | y :: l, x, m => by
    simp only [szs]
    rcases List.mem_cons.mp m with m | m
    · subst m; omega
    · have := sz_mem m; omega
/-- the program of the forms is good, where it fits -/
theorem plP_good {P : Prog} (H : Good P) {fb : Nat} (hf : ∀ d ∈ P.defs, ∃ r, plS P fb d.1.length d.2 = some r) (z1 : szs (bodies (plP P fb)) ≤ 400) (z2 : tds (bodies (plP P fb)) ≤ 30) : Good (plP P fb) := by
  have F := plP_forms hf
  refine good_of H.F.dec (fun d m => ⟨(H.F.sha d m).1, (H.F.sha d m).2.1, (H.F.sha d m).2.2⟩) (by rw [F.hl]; exact H.F.dfs) ?_ ?_ (by rw [F.hp]; exact H.W.nop) z1 z2
  · intro q mq
    obtain ⟨d, m, rfl⟩ := List.mem_map.mp mq
    exact H.F.hea d m
  · intro q mq
    obtain ⟨d, m, rfl⟩ := List.mem_map.mp mq
    obtain ⟨r, hr⟩ := hf d m
    simp only [hr, Option.getD_some]
    exact okS_head F.hd F.hp F.hl _ _ ((pl_ok H.W fb).1 d.1 d.2 r (H.hb d m) hr)
section
variable {cfg : Cfg} (B : Base cfg) (C : Pl8 cfg) {ns : List Int}
include B C
theorem law8_ok {f : Nat} (hf : cfg.defs f = some Lib.law8) (h149 : cfg.defs 149 = some Lib.step) (h168 : cfg.defs 168 = some Lib.run) (h197 : cfg.defs 197 = some Lib._law_plain_statement) (h198 : cfg.defs 198 = some Lib._law_plain_term) (h199 : cfg.defs 199 = some Lib._law_plain_program) (h204 : cfg.defs 204 = some Lib._law_statements2) {n : Nat} (hn : 683 ≤ n) (hn2 : n ≤ 900) (hl : ns.length ≤ 63) : ∃ L, run cfg (n + 1) f [.scr ns] [] = .ok (.bl true) L := by
  obtain ⟨m, rfl⟩ : ∃ m, n = m + 5 := ⟨n - 5, by omega⟩
  have e1 := box_ok B (n := m + 4) hl
  obtain ⟨s2, G2, P, e2, H⟩ := program_drawn B (n := m + 4) (ns := ns.map fun (i : Int) => (i.natAbs : Int)) (s := (0, 0, 0)) (G := []) (by omega)
  generalize HB ((ns.map fun (i : Int) => (i.natAbs : Int)).map D.int) (0, 0, 0) [] = L0 at e1 e2
  generalize HB ((ns.map fun (i : Int) => (i.natAbs : Int)).map D.int) s2 ([] ++ G2) = L1 at e2
  obtain ⟨hfm, G3, e3⟩ := law_plain_program B h197 h198 h199 H (N := m + 4) (by omega) (L := L1)
  generalize L1 ++ G3 = L2 at e3
  have F := plP_forms hfm
  have tdb : ∀ d ∈ P.defs, ∀ r, plS P (m + 4) d.1.length d.2 = some r → okS P d.1 r ∧ td r ≤ 400 := fun d md r hr => by
    have ho := H.hb d md
    have mb : d.2 ∈ bodies P := List.mem_map_of_mem md
    have h2 := H.h2
    have h1 := H.h1
    have t1 := tds_mem mb
    have z1 := sz_mem mb
    have o1 := om_sz H.W d.2 _ ho
    have := (pl_td (m + 4)).1 _ _ _ hr
    exact ⟨(pl_ok H.W _).1 _ _ _ ho hr, by omega⟩
  obtain ⟨Q, hQ⟩ : ∃ Q, Q = plP P (m + 4) := ⟨_, rfl⟩
  rw [← hQ] at e3 F
  have hqd : ∀ q ∈ Q.defs, Wid q.2 ∧ td q.2 ≤ m + 4 := fun q mq => by
    rw [hQ] at mq
    obtain ⟨d, md, rfl⟩ := List.mem_map.mp mq
    obtain ⟨r, hr⟩ := hfm d md
    obtain ⟨a, b⟩ := tdb d md r hr
    simp only [hr, Option.getD_some]
    exact ⟨okS_wid H.W r _ a, by omega⟩
  obtain ⟨G4, e4⟩ := fits_ok B (P := Q) (n := m + 4) (L := L2) hqd (by intro h; have := F.hl; rw [h] at this; have f6 := H.F.dfs; simp at this; omega) (by rw [F.hl]; exact H.F.dfs.2)
  generalize L2 ++ G4 = L3 at e4
  rw [run_succ, runDef_of hf rfl]
  by_cases hfit : szs (bodies Q) ≤ 400 ∧ tds (bodies Q) ≤ 30
  rotate_left
  · have hf' : (decide (szs (bodies Q) ≤ 400) && decide (tds (bodies Q) ≤ 30)) = false := by
      rcases Bool.eq_false_or_eq_true (decide (szs (bodies Q) ≤ 400) && decide (tds (bodies Q) ≤ 30)) with h | h
      · simp at h; exact absurd h hfit
      · exact h
    rw [hf'] at e4
    exact ⟨L3, by simp [Lib.law8, e1, e2, e3, e4]⟩
  have hf' : (decide (szs (bodies Q) ≤ 400) && decide (tds (bodies Q) ≤ 30)) = true := by simp [hfit]
  rw [hf'] at e4
  have M : Good Q := by rw [hQ]; exact plP_good H hfm (by rw [← hQ]; exact hfit.1) (by rw [← hQ]; exact hfit.2)
  obtain ⟨G5, e5⟩ := plain_form_ok B C H (N := m) (fb := m + 4) (L := L3) (by omega) (by omega) (by omega) (fun d md => by
    obtain ⟨r, hr⟩ := hfm d md
    have mb : r ∈ bodies Q := by
      rw [hQ]
      unfold bodies plP
      simp only [List.map_map]
      refine List.mem_map.mpr ⟨d, md, ?_⟩
      simp only [Function.comp, hr, Option.getD_some]
    have := sz_mem mb
    have := tds_mem mb
    exact ⟨r, hr, by omega, by omega⟩)
  rw [← hQ] at e5
  generalize L3 ++ G5 = L4 at e5
  obtain ⟨G6, e6⟩ := statements2_ok B h204 H.W (Db := 30) (n := m + 5) (M := 40) (L := L4) (fun j => H.td j) (by omega) (by omega) (by omega)
  have wc := walk2_chain H.W 40 (P.body 0) H.calm2
  have wl := walk2_len (P := P) 40 (P.body 0)
  generalize walk2 P 40 (P.body 0) = W at e6 wc wl
  obtain ⟨S, hS⟩ : ∃ S, S = P.body 0 :: W.map fun r => r.2 := ⟨_, rfl⟩
  obtain ⟨K, hK⟩ : ∃ K, K = W.map fun r => D.bl r.1 := ⟨_, rfl⟩
  have hF2 : enc (P.body 0) :: W.map (fun r => enc r.2) = S.map enc := by rw [hS]; simp
  rw [hF2, ← hK] at e6
  have e6 : run cfg (m + 5) 204 [eProg P, .int 40] L4 = .ok (.tup [.ref L4.length, .ref (L4.length + 1)]) (L4 ++ .lst (S.map enc) :: .lst K :: G6) := e6
  have sl : S.length = W.length + 1 := by rw [hS]; simp
  have kl : K.length = W.length := by rw [hK]; simp
  have cm : ∀ a ∈ S, Calm2 P a := by rw [hS]; exact chain_mem wc
  have omS : ∀ a ∈ S, om a ≤ 184 := fun a ma => by
    obtain ⟨⟨c1, c2, c3⟩, c4⟩ := cm a ma
    have := om_sz H.W a _ c1
    omega
  -- the forms
  obtain ⟨Z, G7, fz, e7⟩ := forms_loop (P := P) (g := m + 5) (r := L4.length) (al := S) (step := turnC cfg (run cfg (m + 5)) (calls cfg (m + 5)).2 (.name 11) [11] [] (.call 197 [.var 2, .var 11, .int 0]) [some (.scr ns), some (.ref 1), some (eProg P), some (eProg Q), some (eProg Q), none, none, none, none, some (.ref L4.length), some (.ref (L4.length + 1)), none]) S 0 rfl
    (fun s ms acc L ha => by
      obtain ⟨⟨c1, c2, c3⟩, c4⟩ := cm s ms
      have := omS s ms
      obtain ⟨z, G, h1, h2⟩ := (law_plain B h197 h198 H.W (m + 5) (m + 5) (Nat.le_refl _)).1 s [] L c1 (by omega)
      have hm : acc.length < most := by unfold most; omega
      simp at h2
      exact ⟨z, G, h1, by simp [turnC_def, h2, hm]⟩) [] (L4 ++ .lst (S.map enc) :: .lst K :: G6) at_end (by simp; omega)
  have zl := fz.len
  obtain ⟨H7, hH7⟩ : ∃ H7, H7 = (L4 ++ .lst (S.map enc) :: .lst K :: G6) ++ G7 := ⟨_, rfl⟩
  rw [← hH7] at e7
  have gF : ∀ X, (H7 ++ X)[L4.length]? = some (.lst (S.map enc)) := fun X => by rw [hH7]; simp
  have gK : ∀ X, (H7 ++ X)[L4.length + 1]? = some (.lst K) := fun X => by
    rw [hH7, List.append_assoc, List.append_assoc]
    exact at_two
  have gZ : ∀ X, (H7 ++ LO.lst (Z.map enc) :: X)[H7.length]? = some (.lst (Z.map enc)) := fun X => at_end
  have zok : ∀ z ∈ Z, okS P [] z ∧ td z ≤ 430 := fun z mz => by
    obtain ⟨s, ms, hs⟩ := fz.mem z mz
    obtain ⟨⟨c1, c2, c3⟩, c4⟩ := cm s ms
    have := omS s ms
    have := (pl_td (m + 5)).1 _ _ _ hs
    exact ⟨(pl_ok H.W _).1 [] _ _ c1 hs, by omega⟩
  obtain ⟨G8, e8⟩ := loop_mapL (r := H7.length) (xs := Z) (toD := enc) (g := fun z => D.bl (small z)) (step := turnC cfg (run cfg (m + 5)) (calls cfg (m + 5)).2 (.name 11) [11] [] (.call 165 [.var 11]) [some (.scr ns), some (.ref 1), some (eProg P), some (eProg Q), some (eProg Q), some (.ref H7.length), none, none, none, some (.ref L4.length), some (.ref (L4.length + 1)), none]) Z 0 rfl
    (fun z mz acc L ha => by
      obtain ⟨a, b⟩ := zok z mz
      have hm : acc.length < most := by unfold most; omega
      obtain ⟨G, e⟩ := small_ok B (n := m + 5) (x := z) (L := L) (okS_wid H.W z _ a) (by omega)
      exact ⟨G, by simp [turnC_def, e, hm]⟩) [] (H7 ++ [.lst (Z.map enc)]) (gZ []) (by simp; omega)
  have iF := inR_false (L := H7 ++ LO.lst (Z.map enc) :: (G8 ++ [.lst ((Z.map small).map D.bl)])) (n := H7.length + (G8.length + 1)) (bs := Z.map small) (by
    rw [List.getElem?_append_right (by omega)]
    simp)
  have ebl : (Z.map small).map D.bl = Z.map fun z => D.bl (small z) := by simp [Function.comp_def]
  rw [ebl] at iF
  by_cases hsm : (Z.map small).all (fun x => x) = true
  rotate_left
  · have hsm' : (Z.map small).all (fun x => x) = false := by simpa using hsm
    rw [hsm'] at iF
    simp at e7 e8
    exact ⟨H7 ++ LO.lst (Z.map enc) :: (G8 ++ [.lst (Z.map fun z => D.bl (small z))]), by
      simp [Lib.law8, e1, e2, e3, e4, e5, e6, at_end, loopV, e7, gZ, e8, iF]⟩
  rw [hsm] at iF
  have zsm : ∀ y ∈ Z, td y ≤ 60 ∧ sz y ≤ 1500 := fun y my => by
    have := List.all_eq_true.mp hsm (small y) (List.mem_map_of_mem my)
    unfold small at this
    simpa using this
  have h3 : ∀ y ∈ Z, thirdT Q 0 y = none := fun y my => by
    obtain ⟨s, _, hs⟩ := fz.mem y my
    exact F.third hs
  obtain ⟨z0, zs, hz⟩ : ∃ z0 zs, Z = z0 :: zs := by
    cases hq : Z with
    | nil => rw [hq, sl] at zl; simp at zl
    | cons a b => exact ⟨a, b, rfl⟩
  have fz2 : FList P (m + 5) (P.body 0 :: W.map fun r => r.2) (z0 :: zs) := by rw [← hS, ← hz]; exact fz
  obtain ⟨v, v1, v2, v3⟩ := chain_forms H.W F W (P.body 0) z0 zs wc fz2 (fun y my => zsm y (by rw [hz]; exact my))
  have zb : Q.body 0 = z0 := by
    have hb := F.hb 0 H.W.one
    rw [H.W.nop] at hb
    exact plS_det hb fz2.1
  obtain ⟨dq, hdq, hdq1, hdq2⟩ := prog_params B (P := Q) M.W.one
  have i1 : ∀ L, idxR L (eProg Q) (.int 1) = some (eDefs Q.defs) := fun L => rfl
  have i2 : ∀ L, idxR L (eDefs Q.defs) (.int 0) = some (.tup [eSlots (Q.params 0), enc z0]) := fun L => by rw [← zb]; simp [eDefs, hdq, eDef, hdq1, hdq2]
  have vl : v.length = W.length := by have := congrArg List.length v2; simpa using this
  have H9 : ∃ H9, H9 = H7 ++ LO.lst (Z.map enc) :: (G8 ++ [.lst (Z.map fun z => D.bl (small z))]) := ⟨_, rfl⟩
  obtain ⟨H9, hH9⟩ := H9
  have gF9 : ∀ X, (H9 ++ X)[L4.length]? = some (.lst (S.map enc)) := fun X => by rw [hH9, List.append_assoc]; exact gF _
  have gK9 : ∀ X, (H9 ++ X)[L4.length + 1]? = some (.lst K) := fun X => by rw [hH9, List.append_assoc]; exact gK _
  have gZ9 : ∀ X, (H9 ++ X)[H7.length]? = some (.lst (Z.map enc)) := fun X => by rw [hH9]; simp
  have gF0 := gF9 []
  have gK0 := gK9 []
  rw [List.append_nil] at gF0 gK0
  rw [← hH9] at iF
  have src : ∀ L, srcR .rng1 L [.int (W.length : Int)] = some (.items ((List.range' 0 v.length).map fun (i : Nat) => D.int (i : Int))) := fun L => by rw [srcR_rng (by omega), List.range_eq_range', vl]
  have lg := lastT_get W (P.body 0)
  rw [← hS] at lg
  have f3 : atI (S.map enc) ((W.length : Int) + 1 - 1) = some (enc (lastT W (P.body 0))) := by
    rw [show (W.length : Int) + 1 - 1 = (W.length : Int) by omega, atI_nat, List.getElem?_map, lg]; rfl
  have lc := (cm _ (List.mem_of_getElem? lg)).1
  have zd : Z.drop 0 = z0 :: v.map (fun r => r.2) := by rw [hz, v1]; rfl
  have kd : K.drop 0 = v.map (fun r => D.bl r.1) := by
    rw [hK]
    have := congrArg (List.map D.bl) v2
    simpa [Function.comp_def] using this.symm
  cases hlast : lastT W (P.body 0) with
  | stop j =>
    rw [hlast] at f3 lc
    have hj : j ≤ 9 := by simpa [Calm, okS] using lc.1
    obtain ⟨a1, a2⟩ := chain_visit W (P.body 0) wc j hlast 300 (by omega)
    have vlast : lastT v z0 = .stop j := by
      obtain ⟨y, y1, y2⟩ := fz.get lg
      have g1 := lastT_get v z0
      rw [v1, ← hz, vl] at g1
      rw [g1] at y1
      injection y1 with y1
      subst y1
      rw [hlast] at y2
      have st : plS P (m + 4 + 1) 0 (.stop j) = some (.stop j) := plS_of (.other _ rfl (fun t p c e => by cases e) (fun j xs e => by cases e))
      exact plS_det y2 st
    have fc := falses_count v
    obtain ⟨b1, b2⟩ := fch_visit v z0 v3 j vlast 300 (by omega)
    rw [← zb] at b1 b2
    obtain ⟨G10, e10⟩ := run_ok B H h168 (n := m + 4) (m := 300) (by omega) (by omega) (by omega) (L := H9) a2
    obtain ⟨G11, e11⟩ := run_ok B M h168 (n := m + 4) (m := 300) (by omega) (by omega) (by omega) (L := H9 ++ G10) b2
    rw [a1] at e10
    rw [b1] at e11
    have q1 : ∀ L, bfR cfg.tab .repr L [eOut (some (j, W.length))] = _ := fun L => repr_of (shown_out (by simp only; omega) (by simp only; omega)) (by omega) (by omega)
    have q2 : ∀ L, bfR cfg.tab .repr L [eOut (some (j, falses v))] = _ := fun L => repr_of (shown_out (by simp only; omega) (by simp only; omega)) (by omega) (by omega)
    obtain ⟨G12, ρ', e12⟩ := loop8 B M h149 (n := m + 5) (by omega) (by omega) (H := H9) (rK := L4.length + 1) (rZ := H7.length) gK9 gZ9 h3 (r0 := some (.scr ns)) (r1 := some (.ref 1)) (r2 := some (eProg P)) (r3 := some (eProg Q)) (r6 := some (enc (.stop j))) (r9 := some (.ref L4.length)) v z0 0 (G10 ++ G11) none v3 zd kd
    have gK10 := gK9 G10
    have gK11 := gK9 (G10 ++ G11)
    have cnt : (W.length : Int) - ((K.countP fun y => y.eqv (.bl true) : Nat) : Int) = (falses v : Int) := by
      rw [hK]
      have e : (W.map fun r => D.bl r.1) = v.map fun r => D.bl r.1 := by
        have := congrArg (List.map D.bl) v2
        simpa [Function.comp_def] using this.symm
      rw [e]
      omega
    have pk : D.pures K = true ∧ D.deps K ≤ 1 := by
      have := pures_bl (W.map fun r => r.1)
      rw [hK]
      simpa [Function.comp_def] using this
    have pk2 : D.deps K ≤ 180 := by omega
    refine ⟨H9 ++ G12, ?_⟩
    simp [enc, eOut] at e7 e8 e10 e11 e12 f3 q1 q2
    simp [Lib.law8, e1, e2, e3, e4, e5, e6, at_end, loopV, e7, gZ, e8]
    simp [← hH9, iF, gF0, gK0, gK10, gK11, sl, kl, f3, e10, q1, e11, bmOk, bmR, D.pure, pk.1, pk2, cnt, q2, i1, i2, src, e12]
  | cut t p c =>
    rw [hlast] at f3 lc
    obtain ⟨G12, ρ', e12⟩ := loop8 B M h149 (n := m + 5) (by omega) (by omega) (H := H9) (rK := L4.length + 1) (rZ := H7.length) gK9 gZ9 h3 (r0 := some (.scr ns)) (r1 := some (.ref 1)) (r2 := some (eProg P)) (r3 := some (eProg Q)) (r6 := some (enc (.cut t p c))) (r9 := some (.ref L4.length)) v z0 0 [] none v3 zd kd
    refine ⟨H9 ++ G12, ?_⟩
    simp [enc] at e7 e8 e12 f3
    simp [Lib.law8, e1, e2, e3, e4, e5, e6, at_end, loopV, e7, gZ, e8]
    simp [← hH9, iF, gF0, gK0, sl, kl, f3, i1, i2, src, e12]
  | call j xs =>
    rw [hlast] at f3 lc
    obtain ⟨G12, ρ', e12⟩ := loop8 B M h149 (n := m + 5) (by omega) (by omega) (H := H9) (rK := L4.length + 1) (rZ := H7.length) gK9 gZ9 h3 (r0 := some (.scr ns)) (r1 := some (.ref 1)) (r2 := some (eProg P)) (r3 := some (eProg Q)) (r6 := some (enc (.call j xs))) (r9 := some (.ref L4.length)) v z0 0 [] none v3 zd kd
    refine ⟨H9 ++ G12, ?_⟩
    simp [enc] at e7 e8 e12 f3
    simp [Lib.law8, e1, e2, e3, e4, e5, e6, at_end, loopV, e7, gZ, e8]
    simp [← hH9, iF, gF0, gK0, sl, kl, f3, i1, i2, src, e12]
  | _ => rw [hlast] at lc; simp [Calm, okS] at lc
end
end Ap

end
section
set_option linter.all false
set_option maxRecDepth 100000
namespace K08
theorem base : Base bk.cfg := by constructor <;> rfl
theorem pl8 : Ap.Pl8 bk.cfg := by constructor <;> rfl
end K08

end
section
set_option linter.all false
set_option maxRecDepth 100000
set_option maxHeartbeats 0
theorem PySem.Challenge.cw_antiphon_k08_whole_runs_of_plain_forms_holds : PySem.Challenge.rw_antiphon_k08_whole_runs_of_plain_forms.Holds := by
  exact K08.holds_of fun ns hl => Ap.law8_ok K08.base K08.pl8 (f := K08.lawIx) rfl rfl rfl rfl rfl rfl rfl (n := 689) (by omega) (by omega) hl

end
