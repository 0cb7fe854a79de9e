import PyProof.Rows.All
import HandS.ForMost
import HandS.Exc
import HandS.TryMany
import HandS.Lambda
import HandS.CallSlots
import HandS.ExcInit
import HandS.ExcField
import HandS.IsInst
import HandS.Flow
import KE.DatumIndex
import HandS.More
import HandS.TupAny
import HandS.Deep
import HandS.RaiseMore
import PyProof.ListStr
import HandS.Codes
import HandS.WordsDict
import PyProof.ReprRoads
import HandS.WrittenGet
import HandS.Zip
import HandS.ExcIs
import HandS.TryOnly
import KE.GoesZip
import KE.KTurns
import HandS.HeadHook4
import HandS.Head2
import HandS.EndTab
import PyProof.StrLawsRepr
import PySem.Challenge.RW_oneafter_k95_whole_commands_and_parts
set_option Elab.async false
set_option linter.all false
set_option maxRecDepth 100000
/-! E1: the data, the store, the IR and its evaluator (plain Lean; no heap, no machine). -/
namespace Ev
open PySem PySem.Spec PyProof.Rows L2 TL

/-- a value, as data: strings are code points; lists, dicts that nobody writes are values; those that are written stand in the store -/
inductive D where
  | non | bl (b : Bool) | int (i : Int) | str (x : List Nat)
  | tup (xs : List D) | lst (xs : List D) | frl (xs : List D) | dic (ks vs : List D) | wdi (ks vs : List D)
  | ref (n : Nat)
  | fn (i : Nat)
/-- an object of the store -/
inductive SO where
  | lst (xs : List D)
  | dic (ks vs : List D)
abbrev Sto := List SO
abbrev EnvD := List (Option D)

/-- the evaluator's answer: a value; an error of the class c with its fields; or nothing is known -/
inductive R (α : Type) where
  | ok (a : α) (S : Sto) | exc (c : Nat) (fs : List D) (S : Sto) | bad
def R.bind {α β : Type} (r : R α) (f : α → Sto → R β) : R β := match r with
  | .ok a S => f a S
  | .exc c fs S => .exc c fs S
  | .bad => .bad
/-- an error is not known here -/
def R.nox {α : Type} (r : R α) : R α := match r with
  | .ok a S => .ok a S
  | _ => .bad
def R.of {α : Type} (o : Option α) (S : Sto) : R α := match o with
  | some a => .ok a S
  | none => .bad

/-- built-in functions -/
inductive Bf where
  | len | abs | max | min | divmod | int | str | repr | all | any | sum | tuple | list
  deriving DecidableEq
/-- the classes that isinstance is asked of -/
inductive Cl where
  | tInt | tBool | tStr | tTup | tLst
  deriving DecidableEq
/-- methods of built-in types -/
inductive Mt where
  | join | split | append | get
  deriving DecidableEq

inductive Tg where
  | nm (i : Nat)
  | tup (ts : List Tg)

inductive Ex where
  | var (i : Nat) | cst (d : D)
  | tup (es : List Ex) | lst (es : List Ex) | dic (ks vs : List D)
  | new (e : Ex)
  | bop (o : Operator) (a b : Ex) | neg (a : Ex)
  | cmp (o : CmpOp) (a b : Ex) | cmp2 (o o' : CmpOp) (a b c : Ex)
  | and_ (a b : Ex) | or_ (a b : Ex) | not_ (a : Ex) | ife (c a b : Ex)
  | sub (a i : Ex) | slc (a lo hi : Ex)
  | call (f : Nat) (es : List Ex) (perm : List Nat)
  | lam (f : Nat) (body : Ex)
  | thk
  | isi (a : Ex) (c : Cl)
  | bif (b : Bf) (es : List Ex)
  | met (m : Mt) (o : Ex) (es : List Ex)
  | rng (a b : Ex) | zip (a b : Ex) | enu (a : Ex)
  | lc (e : Ex) (tg : Tg) (it : Ex) (ifs : List Ex) (own : List Nat)
  | exf (k : Nat) | exi (c : Nat)

inductive Sm where
  | expr (e : Ex)
  | asg (t : Tg) (e : Ex)
  | asub (o i e : Ex)
  | asub2 (o i : Ex) (j : Nat) (e : Ex)
  | aug (i : Nat) (o : Operator) (e : Ex)
  | ret (e : Ex)
  | iff (c : Ex) (a b : List Sm)
  | for_ (t : Tg) (it : Ex) (b : List Sm)
  | whl (c : Ex) (b : List Sm)
  | rai (c : Nat) (es : List Ex)
  | par (i j : Nat) (a b : Ex)
  | try_ (b : List Sm) (c : Nat) (slot : Option Nat) (h : List Sm)
  | pass | brk | cnt

/-! ### operations by values -/
/-- as the library's data -/
def D.py : D → Option PyData
  | .non => some .none
  | .bl b => some (.bool b)
  | .int i => some (.int i)
  | .str x => some (.str ⟨x.toArray⟩)
  | .tup xs => (pys xs).map .tuple
  | .lst xs => (pys xs).map .list
  | .frl xs => (pys xs).map .list
  | _ => none
where pys : List D → Option (List PyData)
  | [] => some []
  | x :: r => match x.py, pys r with
    | some a, some b => some (a :: b)
    | _, _ => none

/-- what a name of the store stands for -/
def D.look (d : D) (S : Sto) : D := match d with
  | .ref n => (match S[n]? with
    | some (.lst xs) => .lst xs
    | some (.dic ks vs) => .dic ks vs
    | none => .ref n)
  | d => d
def D.truth : D → Option Bool
  | .non => some false
  | .bl b => some b
  | .int i => some (i != 0)
  | .str x => some (!x.isEmpty)
  | .tup xs => some (!xs.isEmpty)
  | .lst xs => some (!xs.isEmpty)
  | .frl xs => some (!xs.isEmpty)
  | .dic ks _ => some (!ks.isEmpty)
  | _ => none
def flatD : D → Bool
  | .non => true
  | .bl _ => true
  | .int _ => true
  | .str _ => true
  | _ => false
/-- == of flat values -/
def feqD : D → D → Bool
  | .non, .non => true
  | .bl a, .bl b => a == b
  | .bl a, .int b => (if a then 1 else 0) == b
  | .int a, .bl b => a == (if b then 1 else 0)
  | .int a, .int b => a == b
  | .str a, .str b => decide (a = b)
  | _, _ => false
/-- == of scalars that are told apart as data -/
def scalD : D → D → Bool
  | .non, .non => true
  | .non, .int _ => true
  | .int _, .non => true
  | .non, .bl _ => true
  | .bl _, .non => true
  | .non, .str _ => true
  | .str _, .non => true
  | .int _, .int _ => true
  | .bl _, .bl _ => true
  | .str _, .str _ => true
  | .int _, .str _ => true
  | .str _, .int _ => true
  | .bl _, .str _ => true
  | .str _, .bl _ => true
  | _, _ => false
/-- == of two values that are no names of the store -/
def deq (a b : D) : Option Bool := if scalD a b then some (feqD a b) else match a.py, b.py with
    | some x, some y => if SeqAt.shaped x && SeqAt.shaped y then some (PyData.eqv x y) else none
    | _, _ => none
def LINE : Nat := 1000000
def ixD (n : Nat) (i : Int) : Option Nat := if 0 ≤ i then (if i < n then some i.toNat else none) else if -(n : Int) ≤ i then some (i + n).toNat else none
def small64 (i : Int) : Bool := decide (-(2 ^ 64) < i) && decide (i < 2 ^ 64)
def catOk (m n : Nat) : Bool := decide (m ≤ LINE) && decide (n ≤ LINE)
def bopD (o : Operator) (a b : D) : Option D := match o, a, b with
  | .Add, .int i, .int j => some (.int (i + j))
  | .Sub, .int i, .int j => some (.int (i - j))
  | .Mult, .int i, .int j => if small64 i || small64 j then some (.int (i * j)) else none
  | .FloorDiv, .int i, .int j => if decide (0 < j) && decide (j < 1073741824) then some (.int (i / j)) else none
  | .Mod, .int i, .int j => if decide (0 < j) then some (.int (i % j)) else none
  | .Pow, .int i, .int j => if decide (0 ≤ j) && decide (j ≤ 1000) && small64 i then some (.int (i ^ j.toNat)) else none
  | .Add, .str x, .str y => if catOk x.length y.length then some (.str (x ++ y)) else none
  | .Add, .tup x, .tup y => if catOk x.length y.length then some (.tup (x ++ y)) else none
  | .Add, .lst x, .lst y => if catOk x.length y.length then some (.lst (x ++ y)) else none
  | .Mult, .str x, .int j => if decide (x.length ≤ 1000) && decide (0 ≤ j) && decide (j ≤ 1000) then some (.str (List.replicate j.toNat x).flatten) else none
  | .Mult, .lst x, .int j => if decide (x.length ≤ 1000) && decide (0 ≤ j) && decide (j ≤ 1000) then some (.lst (List.replicate j.toNat x).flatten) else none
  | _, _, _ => none
/-- one sign, or the empty text, within a text -/
def inStr (x y : List Nat) : Option Bool := match x with
  | [c] => some (y.contains c)
  | _ => none
def inD (x : D) (ys : List D) : Option Bool := if flatD x && ys.all flatD then some (ys.any fun y => feqD y x) else match x.py, D.py.pys ys with
    | some d, some ds => if SeqAt.shaped d && SeqAt.shaped (.list ds) then some (ds.any fun z => PyData.eqv z d) else none
    | _, _ => none
/-- the place of a key, an int or a text -/
def keyIsD : D → D → Bool
  | .int a, .int b => decide (a = b)
  | .str a, .str b => decide (a = b)
  | _, _ => false
def isKeyD : D → Bool
  | .int _ => true
  | .str _ => true
  | _ => false
def lookD (k : D) (ks vs : List D) : Option (Option D) := if isKeyD k then some (((ks.zip vs).find? fun p => keyIsD p.1 k).map (·.2)) else none
/-- a written dict's keys are texts -/
def lookW (k : D) (ks vs : List D) : Option (Option D) := match k with
  | .str _ => lookD k ks vs
  | _ => none
def hasKeyW (k : D) (ks vs : List D) : Option Bool := (lookW k ks vs).map (·.isSome)
def hasKey (k : D) (ks vs : List D) : Option Bool := (lookD k ks vs).map (·.isSome)
def inO (a b : D) : Option Bool := match b with
  | .str y => (match a with
    | .str x => inStr x y
    | _ => none)
  | .tup ys => inD a ys
  | .lst ys => inD a ys
  | .frl ys => inD a ys
  | .dic ks vs => hasKey a ks vs
  | .wdi ks vs => hasKeyW a ks vs
  | _ => none
def notO : Option Bool → Option D := fun o => o.map fun b => .bl (!b)
def blO : Option Bool → Option D := fun o => o.map fun b => .bl b
def isNon : D → Bool
  | .non => true
  | _ => false
def cmpD (o : CmpOp) (a b : D) : Option D := match o with
  | .Eq => blO (deq a b)
  | .NotEq => notO (deq a b)
  | .Lt => (match a, b with
    | .int i, .int j => some (.bl (decide (i < j)))
    | .str x, .str y => some (.bl (decide (x < y)))
    | _, _ => none)
  | .LtE => (match a, b with
    | .int i, .int j => some (.bl (decide (i ≤ j)))
    | .str x, .str y => some (.bl (!decide (y < x)))
    | _, _ => none)
  | .Gt => (match a, b with
    | .int i, .int j => some (.bl (decide (j < i)))
    | _, _ => none)
  | .GtE => (match a, b with
    | .int i, .int j => some (.bl (decide (j ≤ i)))
    | _, _ => none)
  | .Is => (match b with
    | .non => some (.bl (isNon a))
    | _ => none)
  | .IsNot => (match b with
    | .non => some (.bl (!isNon a))
    | _ => none)
  | .In => blO (inO a b)
  | .NotIn => notO (inO a b)
def subD (a i : D) : Option D := match a, i with
  | .tup xs, .int k => (ixD xs.length k).bind fun j => xs[j]?
  | .lst xs, .int k => (ixD xs.length k).bind fun j => xs[j]?
  | .frl xs, .int k => (ixD xs.length k).bind fun j => xs[j]?
  | .str x, .int k => (ixD x.length k).bind fun j => x[j]?.map fun c => .str [c]
  | .dic ks vs, k => (lookD k ks vs).join
  | .wdi ks vs, k => (lookW k ks vs).join
  | _, _ => none
def cutD {α : Type} (xs : List α) (lo hi : Option Int) : List α := (xs.drop (HT.sIx xs.length 0 lo)).take (HT.sIx xs.length xs.length hi - HT.sIx xs.length 0 lo)
def slcP (a : D) (l h : Option Int) : Option D := match a with
  | .tup xs => some (.tup (cutD xs l h))
  | .lst xs => some (.lst (cutD xs l h))
  | .frl xs => some (.lst (cutD xs l h))
  | .str x => some (.str (cutD x l h))
  | _ => none
/-- a slice's part: not written (the constant None), or an int -/
def partX (x : Ex) (d : D) : Option (Option Int) := match x with
  | .cst .non => some none
  | _ => (match d with
    | .int i => some (some i)
    | _ => none)
def isiD (c : Cl) (a : D) : Option Bool := match a with
  | .non => some false
  | .bl _ => (match c with | .tInt => some true | .tBool => some true | _ => some false)
  | .int _ => (match c with | .tInt => some true | _ => some false)
  | .str _ => (match c with | .tStr => some true | _ => some false)
  | .tup _ => (match c with | .tTup => some true | _ => some false)
  | .lst _ => (match c with | .tLst => some true | _ => some false)
  | .frl _ => (match c with | .tLst => some true | _ => some false)
  | _ => none
/-- the signs of a whole number -/
def showInt : Int → List Nat
  | .ofNat n => numL n
  | .negSucc n => 45 :: numL (n + 1)
/-- digits alone -/
def digitsD (x : List Nat) : Option Nat := if x.isEmpty || !(x.all fun c => decide (48 ≤ c) && decide (c ≤ 57)) then none else some (NumText.digitsVal x)
/-- a minus, digits -/
def digitsI (x : List Nat) : Option Int := match digitsD x with
  | some n => some (n : Int)
  | none => match x with
    | c :: r => if decide (c = 45) then (digitsD r).map fun (n : Nat) => -(n : Int) else none
    | [] => none
def strsOf : List D → Option (List (List Nat))
  | [] => some []
  | .str x :: r => (strsOf r).map (x :: ·)
  | _ => none
def blsOf : List D → Option (List Bool)
  | [] => some []
  | .bl x :: r => (blsOf r).map (x :: ·)
  | _ => none
def intsOf : List D → Option (List Int)
  | [] => some []
  | .int x :: r => (intsOf r).map (x :: ·)
  | _ => none
def reprK : D → Bool
  | .non => true
  | .tup _ => true
  | .lst _ => true
  | .frl _ => true
  | _ => false
def reprD (a : D) : Option D := match a.py with
  | some d => if reprK a && SeqAt.shaped d && d.showable && !d.hasDict && decide (d.shown.length ≤ LINE) then some (.str d.shown.cps.toList) else none
  | none => none
def sumLen : List (List Nat) → Nat
  | [] => 0
  | x :: r => x.length + sumLen r
def bifD (b : Bf) (as : List D) : Option D := match b, as with
  | .len, [.str x] => some (.int x.length)
  | .len, [.tup x] => some (.int x.length)
  | .len, [.lst x] => some (.int x.length)
  | .len, [.frl x] => some (.int x.length)
  | .len, [.dic x _] => some (.int x.length)
  | .abs, [.int i] => some (.int (if i < 0 then -i else i))
  | .max, [.int i, .int j] => some (.int (if j > i then j else i))
  | .min, [.int i, .int j] => some (.int (if j < i then j else i))
  | .divmod, [.int i, .int j] => if decide (0 < j) && decide (j < 1073741824) then some (.tup [.int (i / j), .int (i % j)]) else none
  | .int, [.int i] => some (.int i)
  | .int, [.str x] => if decide (x.length ≤ 640) then (digitsI x).map D.int else none
  | .str, [.int i] => if decide (i.natAbs.log2 < 1920) then some (.str (showInt i)) else none
  | .str, [.str x] => some (.str x)
  | .repr, [a] => reprD a
  | .all, [.lst xs] => (blsOf xs).map fun bs => .bl (bs.all id)
  | .any, [.lst xs] => (blsOf xs).map fun bs => .bl (bs.any id)
  | .sum, [.lst xs] => (intsOf xs).map fun bs => .int bs.sum
  | .sum, [.frl xs] => (intsOf xs).map fun bs => .int bs.sum
  | .tuple, [.lst xs] => some (.tup xs)
  | .tuple, [.tup xs] => some (.tup xs)
  | .list, [.lst xs] => some (.lst xs)
  | .list, [.tup xs] => some (.lst xs)
  | .list, [.str x] => if decide (x.length ≤ LINE) then some (.lst (x.map fun c => .str [c])) else none
  | _, _ => none
def notL : D → Bool
  | .lst _ => false
  | _ => true
/-- a value's built-in type, where methods are known -/
def tyD : D → Option String
  | .str _ => some "str"
  | .lst _ => some "list"
  | .frl _ => some "list"
  | .ref _ => some "list"
  | .dic _ _ => some "dict"
  | .wdi _ _ => some "dict"
  | _ => none
/-- the receiver has the method -/
def metK (m : Mt) (d : D) : Bool := match m, d with
  | .join, .str _ => true
  | .split, .str _ => true
  | .append, .ref _ => true
  | .get, .dic _ _ => true
  | .get, .wdi _ _ => true
  | _, _ => false
/-- methods that change nothing -/
def metD (m : Mt) (o : D) (as : List D) : Option D := match m, o, as with
  | .join, .str sep, [.lst xs] => (match strsOf xs with
    | some ys => if decide (sumLen ys + sep.length * ys.length ≤ LINE) then some (.str (joinL sep ys)) else none
    | none => none)
  | .split, .str x, [.str [c]] => if decide (c < 256) && decide (x.length ≤ LINE) then some (.lst ((spl [c] 0 [] x).map .str)) else none
  | .get, .dic ks vs, [k] => (lookD k ks vs).map fun o => o.getD .non
  | .get, .dic ks vs, [k, d] => if notL d then (lookD k ks vs).map fun o => o.getD d else none
  | .get, .wdi ks vs, [k] => (lookW k ks vs).map fun o => o.getD .non
  | .get, .wdi ks vs, [k, d] => if notL d then (lookW k ks vs).map fun o => o.getD d else none
  | _, _, _ => none
/-- methods that change the store -/
def metS (m : Mt) (n : Nat) (as : List D) (S : Sto) : R D := match m, S[n]?, as with
  | .append, some (.lst xs), [y] => if decide (xs.length < LINE) then .ok .non (S.set n (.lst (xs ++ [y]))) else .bad
  | _, _, _ => .bad
/-- what is walked -/
inductive Src where
  | fix (xs : List D)
  | live (n : Nat)
def Src.of (d : D) : Option Src := match d with
  | .tup xs => some (.fix xs)
  | .lst xs => some (.fix xs)
  | .frl xs => some (.fix xs)
  | .str x => some (.fix (x.map fun c => .str [c]))
  | .ref n => some (.live n)
  | _ => none
/-- the next one at the turn i: none: not known; some none: the end -/
def Src.next (s : Src) (i : Nat) (S : Sto) : Option (Option (D × Src)) := match s with
  | .fix [] => some none
  | .fix (x :: r) => some (some (x, .fix r))
  | .live n => match S[n]? with
    | some (.lst xs) => some (xs[i]?.map fun x => (x, .live n))
    | _ => none
def zipD : List D → List D → List D
  | x :: r, y :: s => .tup [x, y] :: zipD r s
  | _, _ => []
def rngD (lo : Int) : Nat → List D
  | 0 => []
  | n + 1 => .int lo :: rngD (lo + 1) n
def enuD (i : Int) : List D → List D
  | [] => []
  | x :: r => .tup [.int i, x] :: enuD (i + 1) r
mutual
/-- an item of a new list to a target -/
def tgD : Tg → D → EnvD → Option EnvD
  | .nm i, d, env => if i < env.length then some (env.set i (some d)) else none
  | .tup ts, .tup xs, env => tgsD ts xs env
  | .tup _, _, _ => none
def tgsD : List Tg → List D → EnvD → Option EnvD
  | [], [], env => some env
  | t :: ts, x :: xs, env => (tgD t x env).bind fun env => tgsD ts xs env
  | _, _, _ => none
end
def permD (p : List Nat) (ds : List D) : Option (List D) := match p with
  | [] => some ds
  | _ => p.mapM fun i => ds[i]?
def wipeD (own : List Nat) (env : EnvD) : EnvD := match own with
  | [] => env
  | i :: r => (wipeD r env).set i none

/-- the slot of an except clause's name is emptied -/
def slotD (slot : Option Nat) (env : EnvD) : EnvD := match slot with
  | some i => env.set i none
  | none => env
def slotOk (slot : Option Nat) (env : EnvD) : Bool := match slot with
  | some i => decide (i < env.length)
  | none => true
/-- how a statement ends -/
inductive Fl where
  | nx | ret (d : D) | brk | cnt
/-- the answer of a statement: where it ends, the names behind it -/
inductive RS where
  | ok (f : Fl) (env : EnvD) (S : Sto) | exc (c : Nat) (fs : List D) (env : EnvD) (S : Sto) | bad
def RS.at_ {α : Type} (r : R α) (env : EnvD) (f : α → Sto → RS) : RS := match r with
  | .ok a S => f a S
  | .exc c fs S => .exc c fs env S
  | .bad => .bad
/-- the program: what a call of a def gives; which class is below which -/
structure Pg where
  call : Nat → List D → Sto → R D
  lam : Nat → (Sto → R D) → Sto → R D
  sub : Nat → Nat → Bool
  thk : Sto → R D
  exn : Option (Nat × List D)

mutual
def evE (P : Pg) : Nat → Ex → EnvD → Sto → R D
  | 0, _, _, _ => .bad
  | n + 1, x, env, S => match x with
    | .var i => (match env[i]? with
      | some (some d) => .ok d S
      | _ => .bad)
    | .cst d => .ok d S
    | .tup es => (evEs P n es env S).bind fun ds S => .ok (.tup ds) S
    | .lst es => (evEs P n es env S).bind fun ds S => .ok (.lst ds) S
    | .dic ks vs => .ok (.dic ks vs) S
    | .new e => (evE P n e env S).bind fun d S => (match d with
      | .lst xs => .ok (.ref S.length) (S ++ [.lst xs])
      | _ => .bad)
    | .bop o a b => (evE P n a env S).bind fun x S => (evE P n b env S).bind fun y S => R.of (bopD o (x.look S) (y.look S)) S
    | .neg a => (evE P n a env S).bind fun x S => (match x with
      | .int i => .ok (.int (-i)) S
      | _ => .bad)
    | .cmp o a b => (evE P n a env S).bind fun x S => (evE P n b env S).bind fun y S => R.of (cmpD o (x.look S) (y.look S)) S
    | .cmp2 o o' a b c => (evE P n a env S).bind fun x S => (evE P n b env S).bind fun y S => (match cmpD o (x.look S) (y.look S) with
      | some (.bl true) => (evE P n c env S).bind fun z S => R.of (cmpD o' (y.look S) (z.look S)) S
      | some (.bl false) => .ok (.bl false) S
      | _ => .bad)
    | .and_ a b => (evE P n a env S).bind fun x S => (match (x.look S).truth with
      | some true => evE P n b env S
      | some false => .ok x S
      | none => .bad)
    | .or_ a b => (evE P n a env S).bind fun x S => (match (x.look S).truth with
      | some true => .ok x S
      | some false => evE P n b env S
      | none => .bad)
    | .not_ a => (evE P n a env S).bind fun x S => (match (x.look S).truth with
      | some k => .ok (.bl (!k)) S
      | none => .bad)
    | .ife c a b => (evT P n c env S).bind fun k S => if k = true then evE P n a env S else evE P n b env S
    | .sub a i => (evE P n a env S).bind fun x S => (evE P n i env S).bind fun y S => R.of (subD (x.look S) y) S
    | .slc a lo hi => (evE P n a env S).bind fun x S => (evE P n lo env S).bind fun l S => (match partX lo l with
      | some p => (evE P n hi env S).bind fun h S => (match partX hi h with
        | some q => R.of (slcP (x.look S) p q) S
        | none => .bad)
      | none => .bad)
    | .call f es p => (evEs P n es env S).bind fun ds S => (match permD p ds with
      | some ds => P.call f ds S
      | none => .bad)
    | .lam f b => P.lam f (fun S => evE P n b env S) S
    | .thk => P.thk S
    | .isi a c => (evE P n a env S).bind fun x S => R.of ((isiD c (x.look S)).map .bl) S
    | .bif b es => (evEs P n es env S).bind fun ds S => R.of (bifD b (ds.map fun d => d.look S)) S
    | .met m o es => (evE P n o env S).bind fun x S => if metK m x = true then (evEs P n es env S).bind fun ds S => (match x with
      | .ref k => metS m k ds S
      | x => R.of (metD m x (ds.map fun d => d.look S)) S) else .bad
    | .rng _ _ => .bad
    | .zip _ _ => .bad
    | .enu _ => .bad
    | .lc e tg it ifs own => (evI P n it env S).bind fun src S => (evL P n e tg ifs src 0 (wipeD own env) S).nox.bind fun xs S => if xs.length ≤ LINE then .ok (.lst xs) S else .bad
    | .exf k => (match P.exn with
      | some (_, fs) => R.of fs[k]? S
      | none => .bad)
    | .exi c => (match P.exn with
      | some (k, _) => .ok (.bl (P.sub k c)) S
      | none => .bad)
def evEs (P : Pg) : Nat → List Ex → EnvD → Sto → R (List D)
  | 0, _, _, _ => .bad
  | _ + 1, [], _, S => .ok [] S
  | n + 1, e :: es, env, S => (evE P n e env S).bind fun d S => (evEs P n es env S).bind fun ds S => .ok (d :: ds) S
/-- a test -/
def evT (P : Pg) : Nat → Ex → EnvD → Sto → R Bool
  | 0, _, _, _ => .bad
  | n + 1, x, env, S => match x with
    | .and_ a b => (evT P n a env S).bind fun k S => if k = true then evT P n b env S else .ok false S
    | .or_ a b => (evT P n a env S).bind fun k S => if k = true then .ok true S else evT P n b env S
    | .not_ a => (evT P n a env S).bind fun k S => .ok (!k) S
    | x => (evE P n x env S).bind fun d S => R.of (d.look S).truth S
/-- what a for walks -/
def evI (P : Pg) : Nat → Ex → EnvD → Sto → R Src
  | 0, _, _, _ => .bad
  | n + 1, x, env, S => match x with
    | .rng a b => (evE P n a env S).bind fun x S => (evE P n b env S).bind fun y S => (match x, y with
      | .int i, .int j => if decide (-1000000 ≤ i) && decide (i ≤ 1000000) && decide (-1000000 ≤ j) && decide (j ≤ 1000000) then .ok (.fix (rngD i (j - i).toNat)) S else .bad
      | _, _ => .bad)
    | .zip a b => (evE P n a env S).bind fun x S => (evE P n b env S).bind fun y S => (match Src.of x, Src.of y with
      | some (.fix xs), some (.fix ys) => .ok (.fix (zipD xs ys)) S
      | _, _ => .bad)
    | .enu a => (evE P n a env S).bind fun x S => (match Src.of x with
      | some (.fix xs) => .ok (.fix (enuD 0 xs)) S
      | _ => .bad)
    | x => (evE P n x env S).bind fun d S => R.of (Src.of d) S
/-- a comprehension's turns -/
def evL (P : Pg) : Nat → Ex → Tg → List Ex → Src → Nat → EnvD → Sto → R (List D)
  | 0, _, _, _, _, _, _, _ => .bad
  | n + 1, e, tg, ifs, src, i, env, S => match src.next i S with
    | none => .bad
    | some none => .ok [] S
    | some (some (d, src)) => match tgD tg d env with
      | none => .bad
      | some env1 => (evTs P n ifs env1 S).bind fun k S => if k = true then (evE P n e env1 S).bind fun y S => (evL P n e tg ifs src (i + 1) env S).bind fun ys S => .ok (y :: ys) S
        else evL P n e tg ifs src (i + 1) env S
def evTs (P : Pg) : Nat → List Ex → EnvD → Sto → R Bool
  | 0, _, _, _ => .bad
  | n + 1, [], _, S => .ok true S
  | n + 1, [c], env, S => evT P n c env S
  | n + 1, _ :: _ :: _, env, S => .bad
end

mutual
def evS (P : Pg) : Nat → Sm → EnvD → Sto → RS
  | 0, _, _, _ => .bad
  | n + 1, x, env, S => match x with
    | .expr e => RS.at_ (evE P n e env S) env fun _ S => .ok .nx env S
    | .asg t e => RS.at_ (evE P n e env S) env fun d S => (match tgD t d env with
      | some env => .ok .nx env S
      | none => .bad)
    | .asub o i e => RS.at_ (evE P n e env S) env fun d S => RS.at_ (evE P n o env S) env fun x S => RS.at_ (evE P n i env S) env fun y S => (match x, y with
      | .ref k, .int j => (match S[k]? with
        | some (.lst xs) => (match ixD xs.length j with
          | some m => .ok .nx env (S.set k (.lst (xs.set m d)))
          | none => .bad)
        | _ => .bad)
      | _, _ => .bad)
    | .asub2 o i s e => RS.at_ (evE P n e env S) env fun d S => (match d with
      | .tup [a, b] => RS.at_ (evE P n o env S) env fun x S => RS.at_ (evE P n i env S) env fun y S => (match x, y with
        | .ref k, .int j => (match S[k]? with
          | some (.lst xs) => (match ixD xs.length j with
            | some m => if s < env.length then .ok .nx (env.set s (some b)) (S.set k (.lst (xs.set m a))) else .bad
            | none => .bad)
          | _ => .bad)
        | _, _ => .bad)
      | _ => .bad)
    | .aug i o e => (match env[i]? with
      | some (some x) => RS.at_ (evE P n e env S) env fun y S => (match x, y with
        | .int a, .int b => (match o with
          | .Add => .ok .nx (env.set i (some (.int (a + b)))) S
          | .Sub => .ok .nx (env.set i (some (.int (a - b)))) S
          | _ => .bad)
        | _, _ => .bad)
      | _ => .bad)
    | .par i j a b => RS.at_ (evE P n a env S) env fun x S => RS.at_ (evE P n b env S) env fun y S => if i < env.length ∧ j < env.length then .ok .nx ((env.set i (some x)).set j (some y)) S else .bad
    | .ret e => RS.at_ (evE P n e env S) env fun d S => .ok (.ret d) env S
    | .iff c a b => RS.at_ (evT P n c env S) env fun k S => if k = true then evSs P n a env S else evSs P n b env S
    | .for_ t it b => RS.at_ (evI P n it env S) env fun src S => evF P n t b src 0 env S
    | .whl c b => evW P n c b env S
    | .rai c es => RS.at_ (evEs P n es env S) env fun ds S => .exc c ds env S
    | .try_ b c slot h => (match evSs P n b env S with
      | .exc k fs env S => if P.sub k c = true then (if slotOk slot env = true then (match evSs { P with exn := some (k, fs) } n h (slotD slot env) S with
            | .ok f env S => .ok f (slotD slot env) S
            | _ => .bad) else .bad)
        else .exc k fs env S
      | r => r)
    | .pass => .ok .nx env S
    | .brk => .ok .brk env S
    | .cnt => .ok .cnt env S
def evSs (P : Pg) : Nat → List Sm → EnvD → Sto → RS
  | 0, _, _, _ => .bad
  | _ + 1, [], env, S => .ok .nx env S
  | n + 1, s :: ss, env, S => match evS P n s env S with
    | .ok .nx env S => evSs P n ss env S
    | r => r
def evF (P : Pg) : Nat → Tg → List Sm → Src → Nat → EnvD → Sto → RS
  | 0, _, _, _, _, _, _ => .bad
  | n + 1, t, b, src, i, env, S => match src.next i S with
    | none => .bad
    | some none => .ok .nx env S
    | some (some (d, src)) => match tgD t d env with
      | none => .bad
      | some env => match evSs P n b env S with
        | .ok .nx env S => evF P n t b src (i + 1) env S
        | .ok .cnt env S => evF P n t b src (i + 1) env S
        | .ok .brk env S => .ok .nx env S
        | r => r
def evW (P : Pg) : Nat → Ex → List Sm → EnvD → Sto → RS
  | 0, _, _, _, _ => .bad
  | n + 1, c, b, env, S => RS.at_ (evT P n c env S) env fun k S => if k = true then (match evSs P n b env S with
      | .ok .nx env S => evW P n c b env S
      | .ok .cnt env S => evW P n c b env S
      | .ok .brk env S => .ok .nx env S
      | r => r) else .ok .nx env S
end
/-- a def: how many slots, its parameters first; its body -/
structure Df where
  ps : Nat
  slots : Nat
  body : List Sm
def Df.start (d : Df) (ds : List D) : EnvD := ds.map some ++ List.replicate (d.slots - ds.length) none
def endOf : RS → R D
  | .ok (.ret d) _ S => .ok d S
  | .ok .nx _ S => .ok .non S
  | .ok _ _ _ => .bad
  | .exc c fs _ S => .exc c fs S
  | .bad => .bad
/-- a program's defs, its classes -/
structure Prg where
  fns : Nat → Option Df
  sub : Nat → Nat → Bool
def FUEL : Nat := 900000
mutual
def callD (G : Prg) : Nat → Nat → List D → Sto → R D
  | 0, _, _, _ => .bad
  | d + 1, f, ds, S => match G.fns f with
    | some df => if ds.length = df.ps then endOf (evSs ⟨callD G d, lamD G d, G.sub, fun _ => .bad, none⟩ FUEL df.body (df.start ds) S) else .bad
    | none => .bad
def lamD (G : Prg) : Nat → Nat → (Sto → R D) → Sto → R D
  | 0, _, _, _ => .bad
  | d + 1, f, th, S => match G.fns f with
    | some df => if df.ps = 1 then endOf (evSs ⟨callD G d, lamD G d, G.sub, th, none⟩ FUEL df.body (none :: List.replicate (df.slots - 1) none) S) else .bad
    | none => .bad
end
end Ev
set_option Elab.async false
set_option linter.all false
set_option maxRecDepth 100000
set_option maxHeartbeats 1000000
/-! E2: what the plain data stands for on the layer's abstract heap; how it is kept. -/
namespace Ev
open PySem PySem.Spec PyProof.Rows L2 TL

/-- the ground of a program: the written part, the tables of code objects, the pinned slots, the dicts' world -/
structure Gd where
  K : PySem.W.Frag
  w : World
  T : List (Addr × Str)
  ca : Nat → Addr
  cf : Nat → List Str
/-- the names: of the store from 0 on; below 0: lists that are being made -/
abbrev Loc := Int → Option Addr
/-- a list that nobody writes: tracked, not a name of the store -/
def LstAt (ρ : Loc) (H : Hp) (a : Addr) (vs : List V) : Prop := H a = some (.lst vs) ∧ ∀ n, ρ n ≠ some a
def keyD : D → Option Key
  | .int i => some (.inl i)
  | .str x => some (.inr ⟨x.toArray⟩)
  | _ => none
/-- the written dict at a: the value at each text -/
structure WdAt (Γ : Gd) (a : Addr) (kvs : List (Key × V)) : Prop where
  kd : ∃ es n, KDict Γ.K Γ.w a es n
  get : ∀ x : Str, ∃ r, PySem.W.nsIn Γ.K a x = some r ∧ RelO (valV kvs (.inr x)) r
/-- a dict that nobody writes -/
def DicAt (ρ : Loc) (H : Hp) (a : Addr) (kvs : List (Key × V)) : Prop := H a = some (.dK kvs) ∧ ∀ n, ρ n ≠ some a
mutual
def Rel (Γ : Gd) (ρ : Loc) (H : Hp) : D → V → Prop
  | .non, v => v = .non
  | .bl b, v => v = .bl b
  | .int i, v => v = .int i
  | .str x, v => v = .str ⟨x.toArray⟩ ∧ x.length ≤ sizeLine
  | .tup ds, v => ∃ a vs, v = .ref a ∧ SqT Γ.K H a vs ∧ RelL Γ ρ H ds vs
  | .lst ds, v => ∃ a vs, v = .ref a ∧ LstAt ρ H a vs ∧ RelL Γ ρ H ds vs
  | .frl ds, v => ∃ a vs o, v = .ref a ∧ H a = some (.frz o (.lst vs)) ∧ RelL Γ ρ H ds vs
  | .dic ks ds, v => ∃ a kvs, v = .ref a ∧ DicAt ρ H a kvs ∧ ks.map keyD = kvs.map (fun p => some p.1) ∧ RelL Γ ρ H ds (kvs.map (·.2))
  | .wdi ks ds, v => ∃ a kvs, v = .ref a ∧ WdAt Γ a kvs ∧ ks.map keyD = kvs.map (fun p => some p.1) ∧ RelL Γ ρ H ds (kvs.map (·.2))
  | .ref n, v => ∃ a, v = .ref a ∧ ρ n = some a
  | .fn _, _ => False
def RelL (Γ : Gd) (ρ : Loc) (H : Hp) : List D → List V → Prop
  | [], vs => vs = []
  | d :: ds, vs => ∃ v r, vs = v :: r ∧ Rel Γ ρ H d v ∧ RelL Γ ρ H ds r
end
/-- what an object of the store stands for -/
def SRel (Γ : Gd) (ρ : Loc) (H : Hp) (a : Addr) : SO → Prop
  | .lst ds => ∃ vs, H a = some (.lst vs) ∧ RelL Γ ρ H ds vs
  | .dic _ _ => False
structure Rm (Γ : Gd) (ρ : Loc) (S : Sto) (H : Hp) : Prop where
  at_ : ∀ (n : Nat) o, S[n]? = some o → ∃ a, ρ n = some a ∧ SRel Γ ρ H a o
  inj : ∀ (n m : Int) a, ρ n = some a → ρ m = some a → n = m
  dom : ∀ (n : Int) a, ρ n = some a → n < S.length
  lst : ∀ (n : Int) a, ρ n = some a → ∃ vs, H a = some (.lst vs)
  low : ∃ B : Int, ∀ n a, ρ n = some a → B ≤ n
  tab : LamX.Tabs Γ.T H
/-- what no write changes -/
def Still : HO → Prop
  | .tbl _ => False
  | _ => True
/-- how the heap goes on: names stay, new names stand at new objects; what has no name is kept, but the tables; what is tracked stays tracked -/
structure Ext0 (ρ : Loc) (H : Hp) (ρ' : Loc) (H' : Hp) : Prop where
  up : ∀ (n : Int) a, ρ n = some a → ρ' n = some a
  new : ∀ (n : Int) a, ρ' n = some a → ρ n = some a ∨ ∀ o, H a = some o → ¬ Still o
  frm : ∀ a o, H a = some o → (∀ n, ρ n ≠ some a) → Still o → H' a = some o
  liv : ∀ a o, H a = some o → Still o → ∃ o', H' a = some o' ∧ Still o'
/-- .. and the lists that are being made are kept -/
structure Ext (ρ : Loc) (H : Hp) (ρ' : Loc) (H' : Hp) : Prop extends Ext0 ρ H ρ' H' where
  hid : ∀ (n : Int) a vs, n < 0 → ρ n = some a → H a = some (.lst vs) → H' a = some (.lst vs)
section
variable {Γ : Gd} {ρ ρ' ρ'' : Loc} {S S' : Sto} {H H' H'' : Hp}
theorem Ext.refl (ρ : Loc) (H : Hp) : Ext ρ H ρ H := ⟨⟨fun _ _ e => e, fun _ _ e => .inl e, fun _ _ e _ _ => e, fun _ o e s => ⟨o, e, s⟩⟩, fun _ _ _ _ _ e => e⟩
theorem Ext.trans (e : Ext ρ H ρ' H') (f : Ext ρ' H' ρ'' H'') : Ext ρ H ρ'' H'' where
  up := fun n a h => f.up n a (e.up n a h)
  new := fun n a h => by
    rcases f.new n a h with h | h
    · exact e.new n a h
    · exact .inr fun o ho hs => by
        obtain ⟨o', h1, h2⟩ := e.liv a o ho hs
        exact h o' h1 h2
  frm := fun a o h hn ht => f.frm a o (e.frm a o h hn ht) (fun n z => by
    rcases e.new n a z with z | z
    · exact hn n z
    · exact z o h ht) ht
  liv := fun a o h hs => by
    obtain ⟨o', h1, h2⟩ := e.liv a o h hs
    exact f.liv a o' h1 h2
  hid := fun n a vs hn h q => f.hid n a vs hn (e.up n a h) (e.hid n a vs hn h q)
/-- what is tracked and has no name gets none -/
theorem Ext0.noname (e : Ext0 ρ H ρ' H') {a : Addr} {o : HO} (h : H a = some o) (hn : ∀ n, ρ n ≠ some a) (hs : Still o) : ∀ n, ρ' n ≠ some a := fun n z => by
  rcases e.new n a z with z | z
  · exact hn n z
  · exact z o h hs
/-- names stand at objects of the store -/
theorem Rm.named (r : Rm Γ ρ S H) {n : Int} {a : Addr} (h : ρ n = some a) : ∃ vs, H a = some (.lst vs) := r.lst n a h
theorem Rm.tupNo (r : Rm Γ ρ S H) {a : Addr} {o : HO} (h : H a = some o) (ho : ∀ vs, o ≠ .lst vs) : ∀ n, ρ n ≠ some a := fun n z => by
  obtain ⟨vs, e⟩ := r.named z
  rw [h] at e
  exact ho vs (Option.some.inj e)
theorem sqT_ext0 (r : Rm Γ ρ S H) (e : Ext0 ρ H ρ' H') {a : Addr} {vs : List V} (h : SqT Γ.K H a vs) : SqT Γ.K H' a vs := by
  rcases h with h | h
  · rcases h with h | ⟨o, h⟩
    · exact .inl (.inl (e.frm a _ h (r.tupNo h (fun _ z => nomatch z)) trivial))
    · exact .inl (.inr ⟨o, e.frm a _ h (r.tupNo h (fun _ z => nomatch z)) trivial⟩)
  · exact .inr h
theorem lstAt_ext0 (e : Ext0 ρ H ρ' H') {a : Addr} {vs : List V} (h : LstAt ρ H a vs) : LstAt ρ' H' a vs := by
  obtain ⟨h, hn⟩ := h
  exact ⟨e.frm a _ h hn trivial, e.noname h hn trivial⟩
theorem dicAt_ext0 (e : Ext0 ρ H ρ' H') {a : Addr} {kvs : List (Key × V)} (h : DicAt ρ H a kvs) : DicAt ρ' H' a kvs := by
  obtain ⟨h, hn⟩ := h
  exact ⟨e.frm a _ h hn trivial, e.noname h hn trivial⟩
mutual
theorem Rel.ext0 (r : Rm Γ ρ S H) (e : Ext0 ρ H ρ' H') : ∀ (d : D) (v : V), Rel Γ ρ H d v → Rel Γ ρ' H' d v
  | .non, _, h => by
    unfold Rel at h ⊢
    exact h
  | .bl _, _, h => by
    unfold Rel at h ⊢
    exact h
  | .int _, _, h => by
    unfold Rel at h ⊢
    exact h
  | .str _, _, h => by
    unfold Rel at h ⊢
    exact h
  | .tup ds, v, h => by
    unfold Rel at h ⊢
    obtain ⟨a, vs, e1, h1, h2⟩ := h
    exact ⟨a, vs, e1, sqT_ext0 r e h1, RelL.ext0 r e ds vs h2⟩
  | .lst ds, v, h => by
    unfold Rel at h ⊢
    obtain ⟨a, vs, e1, h1, h2⟩ := h
    exact ⟨a, vs, e1, lstAt_ext0 e h1, RelL.ext0 r e ds vs h2⟩
  | .frl ds, v, h => by
    unfold Rel at h ⊢
    obtain ⟨a, vs, o, e1, h1, h2⟩ := h
    exact ⟨a, vs, o, e1, e.frm a _ h1 (r.tupNo h1 (fun _ z => nomatch z)) trivial, RelL.ext0 r e ds vs h2⟩
  | .dic ks ds, v, h => by
    unfold Rel at h ⊢
    obtain ⟨a, kvs, e1, h1, h2, h3⟩ := h
    exact ⟨a, kvs, e1, dicAt_ext0 e h1, h2, RelL.ext0 r e ds _ h3⟩
  | .wdi ks ds, v, h => by
    unfold Rel at h ⊢
    obtain ⟨a, kvs, e1, h1, h2, h3⟩ := h
    exact ⟨a, kvs, e1, h1, h2, RelL.ext0 r e ds _ h3⟩
  | .ref n, v, h => by
    unfold Rel at h ⊢
    obtain ⟨a, e1, h1⟩ := h
    exact ⟨a, e1, e.up n a h1⟩
  | .fn _, v, h => by
    unfold Rel at h
    exact h.elim
theorem RelL.ext0 (r : Rm Γ ρ S H) (e : Ext0 ρ H ρ' H') : ∀ (ds : List D) (vs : List V), RelL Γ ρ H ds vs → RelL Γ ρ' H' ds vs
  | [], vs, h => by
    unfold RelL at h ⊢
    exact h
  | d :: ds, vs, h => by
    unfold RelL at h ⊢
    obtain ⟨v, q, e1, h1, h2⟩ := h
    exact ⟨v, q, e1, Rel.ext0 r e d v h1, RelL.ext0 r e ds q h2⟩
end
theorem sqT_ext (r : Rm Γ ρ S H) (e : Ext ρ H ρ' H') {a : Addr} {vs : List V} (h : SqT Γ.K H a vs) : SqT Γ.K H' a vs := sqT_ext0 r e.toExt0 h
theorem lstAt_ext (e : Ext ρ H ρ' H') {a : Addr} {vs : List V} (h : LstAt ρ H a vs) : LstAt ρ' H' a vs := lstAt_ext0 e.toExt0 h
theorem dicAt_ext (e : Ext ρ H ρ' H') {a : Addr} {kvs : List (Key × V)} (h : DicAt ρ H a kvs) : DicAt ρ' H' a kvs := dicAt_ext0 e.toExt0 h
theorem Rel.ext (r : Rm Γ ρ S H) (e : Ext ρ H ρ' H') (d : D) (v : V) (h : Rel Γ ρ H d v) : Rel Γ ρ' H' d v := Rel.ext0 r e.toExt0 d v h
theorem RelL.ext (r : Rm Γ ρ S H) (e : Ext ρ H ρ' H') (ds : List D) (vs : List V) (h : RelL Γ ρ H ds vs) : RelL Γ ρ' H' ds vs := RelL.ext0 r e.toExt0 ds vs h
theorem relL_nil {vs : List V} : RelL Γ ρ H [] vs ↔ vs = [] := by unfold RelL; exact Iff.rfl
theorem relL_cons {d : D} {ds : List D} {vs : List V} : RelL Γ ρ H (d :: ds) vs ↔ ∃ v r, vs = v :: r ∧ Rel Γ ρ H d v ∧ RelL Γ ρ H ds r := by rw [RelL]
theorem RelL.length : ∀ {ds : List D} {vs : List V}, RelL Γ ρ H ds vs → ds.length = vs.length
  | [], _, h => by
    rw [relL_nil.mp h]
    rfl
  | d :: ds, _, h => by
    obtain ⟨v, r, rfl, _, h2⟩ := relL_cons.mp h
    rw [List.length_cons, List.length_cons, h2.length]
theorem RelL.get : ∀ {ds : List D} {vs : List V} {i : Nat} {d : D}, RelL Γ ρ H ds vs → ds[i]? = some d → ∃ v, vs[i]? = some v ∧ Rel Γ ρ H d v
  | [], _, _, _, _, e => by simp at e
  | x :: ds, _, 0, d, h, e => by
    obtain ⟨v, r, rfl, h1, _⟩ := relL_cons.mp h
    simp at e
    subst e
    exact ⟨v, rfl, h1⟩
  | x :: ds, _, i + 1, d, h, e => by
    obtain ⟨v, r, rfl, _, h2⟩ := relL_cons.mp h
    exact RelL.get (i := i) h2 (by simpa using e)
theorem RelL.append : ∀ {ds es : List D} {vs us : List V}, RelL Γ ρ H ds vs → RelL Γ ρ H es us → RelL Γ ρ H (ds ++ es) (vs ++ us)
  | [], _, _, _, h, q => by
    rw [relL_nil.mp h]
    exact q
  | d :: ds, _, _, _, h, q => by
    obtain ⟨v, r, rfl, h1, h2⟩ := relL_cons.mp h
    exact relL_cons.mpr ⟨v, r ++ _, rfl, h1, h2.append q⟩
theorem RelL.take : ∀ (n : Nat) {ds : List D} {vs : List V}, RelL Γ ρ H ds vs → RelL Γ ρ H (ds.take n) (vs.take n)
  | 0, ds, vs, _ => by
    rw [List.take_zero, List.take_zero]
    exact relL_nil.mpr rfl
  | n + 1, [], vs, h => by
    rw [relL_nil.mp h]
    exact relL_nil.mpr rfl
  | n + 1, d :: ds, vs, h => by
    obtain ⟨v, r, rfl, h1, h2⟩ := relL_cons.mp h
    exact relL_cons.mpr ⟨v, _, rfl, h1, h2.take n⟩
theorem RelL.drop : ∀ (n : Nat) {ds : List D} {vs : List V}, RelL Γ ρ H ds vs → RelL Γ ρ H (ds.drop n) (vs.drop n)
  | 0, ds, vs, h => h
  | n + 1, [], vs, h => by
    rw [relL_nil.mp h]
    exact relL_nil.mpr rfl
  | n + 1, d :: ds, vs, h => by
    obtain ⟨v, r, rfl, h1, h2⟩ := relL_cons.mp h
    exact h2.drop n
theorem RelL.set : ∀ (i : Nat) {ds : List D} {vs : List V} {d : D} {v : V}, RelL Γ ρ H ds vs → Rel Γ ρ H d v → RelL Γ ρ H (ds.set i d) (vs.set i v)
  | i, [], vs, _, _, h, _ => by
    rw [relL_nil.mp h]
    exact relL_nil.mpr rfl
  | 0, x :: ds, vs, d, v, h, q => by
    obtain ⟨u, r, rfl, h1, h2⟩ := relL_cons.mp h
    exact relL_cons.mpr ⟨v, r, rfl, q, h2⟩
  | i + 1, x :: ds, vs, d, v, h, q => by
    obtain ⟨u, r, rfl, h1, h2⟩ := relL_cons.mp h
    exact relL_cons.mpr ⟨u, _, rfl, h1, h2.set i q⟩
theorem RelL.one {d : D} {v : V} (h : Rel Γ ρ H d v) : RelL Γ ρ H [d] [v] := relL_cons.mpr ⟨v, [], rfl, h, relL_nil.mpr rfl⟩
theorem RelL.flat : ∀ (k : Nat) {ds : List D} {vs : List V}, RelL Γ ρ H ds vs → RelL Γ ρ H (List.replicate k ds).flatten (List.replicate k vs).flatten
  | 0, _, _, _ => relL_nil.mpr rfl
  | k + 1, _, _, h => by
    rw [List.replicate_succ, List.replicate_succ, List.flatten_cons, List.flatten_cons]
    exact h.append (RelL.flat k h)
/-! ### the store goes on -/
theorem tabs_grow {p : Addr} {o : HO} (h : LamX.Tabs Γ.T H) (hp : H p = none) : LamX.Tabs Γ.T (upd H p o) := h.ext fun b u e => by rw [upd_ne (ne_of_none e hp)]; exact e
theorem Ext.grow {p : Addr} {o : HO} (hp : H p = none) : Ext ρ H ρ (upd H p o) where
  hid := fun n a vs _ _ e => by rw [upd_ne (ne_of_none e hp)]; exact e
  up := fun _ _ e => e
  new := fun _ _ e => .inl e
  frm := fun a u e _ _ => by rw [upd_ne (ne_of_none e hp)]; exact e
  liv := fun a u e hs => ⟨u, by rw [upd_ne (ne_of_none e hp)]; exact e, hs⟩
theorem SRel.ext0 (r : Rm Γ ρ S H) (e : Ext0 ρ H ρ' H') {a : Addr} {o : SO} (k : ∀ vs, H a = some (.lst vs) → H' a = some (.lst vs)) (h : SRel Γ ρ H a o) : SRel Γ ρ' H' a o := by
  cases o with
  | lst ds =>
    obtain ⟨vs, h1, h2⟩ := h
    exact ⟨vs, k vs h1, RelL.ext0 r e ds vs h2⟩
  | dic ks vs => exact h.elim
theorem SRel.ext (r : Rm Γ ρ S H) (e : Ext ρ H ρ' H') {a : Addr} {o : SO} (k : ∀ vs, H a = some (.lst vs) → H' a = some (.lst vs)) (h : SRel Γ ρ H a o) : SRel Γ ρ' H' a o := h.ext0 r e.toExt0 k
theorem Rm.grow {p : Addr} {o : HO} (r : Rm Γ ρ S H) (hp : H p = none) : Rm Γ ρ S (upd H p o) where
  at_ := fun n u e => by
    obtain ⟨a, h1, h2⟩ := r.at_ n u e
    exact ⟨a, h1, h2.ext r (Ext.grow hp) fun vs h => by rw [upd_ne (ne_of_none h hp)]; exact h⟩
  inj := r.inj
  dom := r.dom
  lst := fun n a h => by
    obtain ⟨vs, e⟩ := r.lst n a h
    exact ⟨vs, by rw [upd_ne (ne_of_none e hp)]; exact e⟩
  low := r.low
  tab := tabs_grow r.tab hp
/-- a fresh list gets a name -/
def nameAt (ρ : Loc) (n : Int) (a : Addr) : Loc := fun m => if m = n then some a else ρ m
theorem Rm.noneAt (r : Rm Γ ρ S H) : ρ S.length = none := by
  cases h : ρ S.length with
  | none => rfl
  | some a => exact absurd (r.dom _ _ h) (Int.lt_irrefl _)
theorem Ext.name {n : Int} {a : Addr} {o : HO} (hn : ρ n = none) (h0 : H a = none) : Ext ρ H (nameAt ρ n a) (upd H a o) where
  up := fun m b h => by
    unfold nameAt
    by_cases hm : m = n
    · rw [hm, hn] at h
      cases h
    · rw [if_neg hm]
      exact h
  new := fun m b h => by
    unfold nameAt at h
    by_cases hm : m = n
    · rw [if_pos hm] at h
      cases h
      exact .inr fun o e => by
        rw [h0] at e
        cases e
    · rw [if_neg hm] at h
      exact .inl h
  frm := (Ext.grow (ρ := ρ) h0).frm
  liv := (Ext.grow (ρ := ρ) h0).liv
  hid := (Ext.grow (ρ := ρ) h0).hid
theorem Rm.fresh (r : Rm Γ ρ S H) {a : Addr} (h : H a = none) : ∀ n, ρ n ≠ some a := fun n z => by
  obtain ⟨vs, e⟩ := r.named z
  rw [h] at e
  cases e
theorem Rm.name {a : Addr} {vs : List V} {ds : List D} (r : Rm Γ ρ S H) (ha : H a = none) (h : RelL Γ ρ H ds vs) : Rm Γ (nameAt ρ S.length a) (S ++ [.lst ds]) (upd H a (.lst vs)) where
  at_ := fun n o e => by
    have ex : Ext ρ H (nameAt ρ S.length a) (upd H a (.lst vs)) := Ext.name r.noneAt ha
    by_cases hn : n < S.length
    · rw [List.getElem?_append_left hn] at e
      obtain ⟨b, h1, h2⟩ := r.at_ n o e
      exact ⟨b, ex.up n b h1, h2.ext r ex fun us q => by rw [upd_ne (ne_of_none q ha)]; exact q⟩
    · by_cases hm : n = S.length
      · subst hm
        rw [List.getElem?_append_right (Nat.le_refl _), Nat.sub_self] at e
        cases e
        refine ⟨a, ?_, vs, upd_same, RelL.ext r ex ds vs h⟩
        unfold nameAt
        rw [if_pos rfl]
      · rw [List.getElem?_append_right (by omega)] at e
        have : n - S.length ≠ 0 := by omega
        cases q : n - S.length with
        | zero => exact absurd q this
        | succ k =>
          rw [q] at e
          cases e
  inj := fun n m b h1 h2 => by
    unfold nameAt at h1 h2
    by_cases e1 : n = S.length
    · by_cases e2 : m = S.length
      · rw [e1, e2]
      · rw [if_pos e1] at h1
        rw [if_neg e2] at h2
        cases h1
        exact absurd h2 (r.fresh ha m)
    · rw [if_neg e1] at h1
      by_cases e2 : m = S.length
      · rw [if_pos e2] at h2
        cases h2
        exact absurd h1 (r.fresh ha n)
      · rw [if_neg e2] at h2
        exact r.inj n m b h1 h2
  dom := fun n b h => by
    rw [List.length_append, List.length_singleton]
    unfold nameAt at h
    by_cases e1 : n = S.length
    · omega
    · rw [if_neg e1] at h
      have := r.dom n b h
      omega
  lst := fun n b h => by
    unfold nameAt at h
    by_cases e1 : n = S.length
    · rw [if_pos e1] at h
      cases h
      exact ⟨vs, upd_same⟩
    · rw [if_neg e1] at h
      obtain ⟨ws, e⟩ := r.lst n b h
      exact ⟨ws, by rw [upd_ne (ne_of_none e ha)]; exact e⟩
  low := by
    obtain ⟨B, hB⟩ := r.low
    refine ⟨min B 0, fun n b h => ?_⟩
    unfold nameAt at h
    by_cases e1 : n = S.length
    · omega
    · rw [if_neg e1] at h
      have := hB n b h
      omega
  tab := tabs_grow r.tab ha
/-- the object of a name is written -/
theorem Ext0.write {n : Int} {a : Addr} {vs us : List V} (hn : ρ n = some a) (ha : H a = some (.lst vs)) : Ext0 ρ H ρ (upd H a (.lst us)) where
  up := fun _ _ e => e
  new := fun _ _ e => .inl e
  frm := fun b o e hb _ => by
    have hne : b ≠ a := fun z => hb n (by rw [z]; exact hn)
    rw [upd_ne hne]
    exact e
  liv := fun b o e hs => by
    by_cases hb : b = a
    · rw [hb]
      exact ⟨_, upd_same, trivial⟩
    · exact ⟨o, by rw [upd_ne hb]; exact e, hs⟩
theorem Ext.write {n : Nat} {a : Addr} {vs us : List V} (r : Rm Γ ρ S H) (hn : ρ n = some a) (ha : H a = some (.lst vs)) : Ext ρ H ρ (upd H a (.lst us)) where
  toExt0 := Ext0.write hn ha
  hid := fun m b ws hm h e => by
    have hne : b ≠ a := fun z => by
      have := r.inj m n a (by rw [← z]; exact h) hn
      omega
    rw [upd_ne hne]
    exact e
/-- .. the list that is being made is written -/
theorem Rm.over {n : Int} {a : Addr} {vs us : List V} (r : Rm Γ ρ S H) (hneg : n < 0) (hn : ρ n = some a) (ha : H a = some (.lst vs)) : Rm Γ ρ S (upd H a (.lst us)) where
  at_ := fun m o e => by
    have ex : Ext0 ρ H ρ (upd H a (.lst us)) := Ext0.write hn ha
    obtain ⟨b, h1, h2⟩ := r.at_ m o e
    refine ⟨b, h1, h2.ext0 r ex fun ws q => ?_⟩
    have hne : b ≠ a := fun z => by
      have := r.inj m n a (by rw [← z]; exact h1) hn
      omega
    rw [upd_ne hne]
    exact q
  inj := r.inj
  dom := r.dom
  lst := fun m b h => by
    by_cases hb : b = a
    · rw [hb]
      exact ⟨us, upd_same⟩
    · rw [upd_ne hb]
      exact r.lst m b h
  low := r.low
  tab := fun p hp => by
    obtain ⟨ps, h1, h2, h3⟩ := r.tab p hp
    have hne : p.1 ≠ a := fun z => by
      rw [z, ha] at h1
      cases h1
    refine ⟨ps, by rw [upd_ne hne]; exact h1, h2, fun pos cv hc => ?_⟩
    obtain ⟨c, e1, e2⟩ := h3 pos cv hc
    refine ⟨c, e1, ?_⟩
    have hce : c ≠ a := fun z => by
      rw [z, ha] at e2
      cases e2
    rw [upd_ne hce]
    exact e2
theorem Rm.write {n : Nat} {a : Addr} {vs us : List V} {ds : List D} (r : Rm Γ ρ S H) (hn : ρ n = some a) (ha : H a = some (.lst vs)) (h : RelL Γ ρ H ds us) : Rm Γ ρ (S.set n (.lst ds)) (upd H a (.lst us)) where
  at_ := fun m o e => by
    have ex : Ext ρ H ρ (upd H a (.lst us)) := Ext.write r hn ha
    by_cases hm : n = m
    · subst hm
      have hd := r.dom n a hn
      rw [List.getElem?_set_self (by omega)] at e
      cases e
      exact ⟨a, hn, us, upd_same, RelL.ext r ex ds us h⟩
    · rw [List.getElem?_set_ne hm] at e
      obtain ⟨b, h1, h2⟩ := r.at_ m o e
      refine ⟨b, h1, h2.ext r ex fun ws q => ?_⟩
      have hne : b ≠ a := fun z => hm (by
        have := r.inj n m a hn (by rw [← z]; exact h1)
        omega)
      rw [upd_ne hne]
      exact q
  inj := r.inj
  dom := fun m b h1 => by
    rw [List.length_set]
    exact r.dom m b h1
  lst := fun m b h1 => by
    by_cases hb : b = a
    · rw [hb]
      exact ⟨us, upd_same⟩
    · rw [upd_ne hb]
      exact r.lst m b h1
  low := r.low
  tab := fun p hp => by
    obtain ⟨ps, h1, h2, h3⟩ := r.tab p hp
    have hne : p.1 ≠ a := fun z => by
      rw [z, ha] at h1
      cases h1
    refine ⟨ps, by rw [upd_ne hne]; exact h1, h2, fun pos cv hc => ?_⟩
    obtain ⟨c, e1, e2⟩ := h3 pos cv hc
    refine ⟨c, e1, ?_⟩
    have hce : c ≠ a := fun z => by
      rw [z, ha] at e2
      cases e2
    rw [upd_ne hce]
    exact e2
/-- but the tables nothing changed -/
theorem Ext.ofN (x : LamX.ExtN H H') : Ext ρ H ρ H' where
  up := fun _ _ e => e
  new := fun _ _ e => .inl e
  frm := fun a o e _ hs => x a o e fun ps z => by
    rw [z] at hs
    exact hs
  liv := fun a o e hs => ⟨o, x a o e fun ps z => by
    rw [z] at hs
    exact hs, hs⟩
  hid := fun n a vs _ _ e => x a _ e fun ps z => nomatch z
theorem Rm.ofN (r : Rm Γ ρ S H) (x : LamX.ExtN H H') (t : LamX.Tabs Γ.T H') : Rm Γ ρ S H' where
  at_ := fun n o e => by
    obtain ⟨a, h1, h2⟩ := r.at_ n o e
    exact ⟨a, h1, h2.ext r (Ext.ofN x) fun vs q => x a _ q fun ps z => nomatch z⟩
  inj := r.inj
  dom := r.dom
  lst := fun n a h => by
    obtain ⟨vs, e⟩ := r.lst n a h
    exact ⟨vs, x a _ e fun ps z => nomatch z⟩
  low := r.low
  tab := t
/-! ### a list that is being made -/
theorem Ext.over {D : Addr} {o : HO} (e : Ext ρ H ρ' H') (h : H D = none) : Ext ρ H ρ' (upd H' D o) where
  up := e.up
  new := e.new
  frm := fun a u q hn hs => by rw [upd_ne (ne_of_none q h)]; exact e.frm a u q hn hs
  liv := fun a u q hs => by
    obtain ⟨o', h1, h2⟩ := e.liv a u q hs
    exact ⟨o', by rw [upd_ne (ne_of_none q h)]; exact h1, h2⟩
  hid := fun n a vs hn q z => by rw [upd_ne (ne_of_none z h)]; exact e.hid n a vs hn q z
theorem Rm.hide {k : Int} {a : Addr} {vs : List V} (r : Rm Γ ρ S H) (hk : ρ k = none) (hneg : k < 0) (ha : H a = none) : Rm Γ (nameAt ρ k a) S (upd H a (.lst vs)) where
  at_ := fun n o e => by
    have ex : Ext ρ H (nameAt ρ k a) (upd H a (.lst vs)) := Ext.name hk ha
    obtain ⟨b, h1, h2⟩ := r.at_ n o e
    exact ⟨b, ex.up n b h1, h2.ext r ex fun us q => by rw [upd_ne (ne_of_none q ha)]; exact q⟩
  inj := fun n m b h1 h2 => by
    unfold nameAt at h1 h2
    by_cases e1 : n = k
    · by_cases e2 : m = k
      · rw [e1, e2]
      · rw [if_pos e1] at h1
        rw [if_neg e2] at h2
        cases h1
        exact absurd h2 (r.fresh ha m)
    · rw [if_neg e1] at h1
      by_cases e2 : m = k
      · rw [if_pos e2] at h2
        cases h2
        exact absurd h1 (r.fresh ha n)
      · rw [if_neg e2] at h2
        exact r.inj n m b h1 h2
  dom := fun n b h => by
    unfold nameAt at h
    by_cases e1 : n = k
    · omega
    · rw [if_neg e1] at h
      exact r.dom n b h
  lst := fun n b h => by
    unfold nameAt at h
    by_cases e1 : n = k
    · rw [if_pos e1] at h
      cases h
      exact ⟨vs, upd_same⟩
    · rw [if_neg e1] at h
      obtain ⟨ws, e⟩ := r.lst n b h
      exact ⟨ws, by rw [upd_ne (ne_of_none e ha)]; exact e⟩
  low := by
    obtain ⟨B, hB⟩ := r.low
    refine ⟨min B k, fun n b h => ?_⟩
    unfold nameAt at h
    by_cases e1 : n = k
    · omega
    · rw [if_neg e1] at h
      have := hB n b h
      omega
  tab := tabs_grow r.tab ha
/-- fewer names -/
structure Less (ρ ρ' : Loc) : Prop where
  sub : ∀ n a, ρ' n = some a → ρ n = some a
  nat : ∀ n : Nat, ρ' n = ρ n
theorem lstAt_less (l : Less ρ ρ') {a : Addr} {vs : List V} (h : LstAt ρ H a vs) : LstAt ρ' H a vs := ⟨h.1, fun n z => h.2 n (l.sub n a z)⟩
mutual
theorem Rel.less (l : Less ρ ρ') : ∀ (d : D) (v : V), Rel Γ ρ H d v → Rel Γ ρ' H d v
  | .non, _, h => by
    unfold Rel at h ⊢
    exact h
  | .bl _, _, h => by
    unfold Rel at h ⊢
    exact h
  | .int _, _, h => by
    unfold Rel at h ⊢
    exact h
  | .str _, _, h => by
    unfold Rel at h ⊢
    exact h
  | .tup ds, v, h => by
    unfold Rel at h ⊢
    obtain ⟨a, vs, e1, h1, h2⟩ := h
    exact ⟨a, vs, e1, h1, RelL.less l ds vs h2⟩
  | .lst ds, v, h => by
    unfold Rel at h ⊢
    obtain ⟨a, vs, e1, h1, h2⟩ := h
    exact ⟨a, vs, e1, lstAt_less l h1, RelL.less l ds vs h2⟩
  | .frl ds, v, h => by
    unfold Rel at h ⊢
    obtain ⟨a, vs, o, e1, h1, h2⟩ := h
    exact ⟨a, vs, o, e1, h1, RelL.less l ds vs h2⟩
  | .dic ks ds, v, h => by
    unfold Rel at h ⊢
    obtain ⟨a, kvs, e1, ⟨h1, hn⟩, h2, h3⟩ := h
    exact ⟨a, kvs, e1, ⟨h1, fun n z => hn n (l.sub n a z)⟩, h2, RelL.less l ds _ h3⟩
  | .wdi ks ds, v, h => by
    unfold Rel at h ⊢
    obtain ⟨a, kvs, e1, h1, h2, h3⟩ := h
    exact ⟨a, kvs, e1, h1, h2, RelL.less l ds _ h3⟩
  | .ref n, v, h => by
    unfold Rel at h ⊢
    obtain ⟨a, e1, h1⟩ := h
    exact ⟨a, e1, (l.nat n).trans h1⟩
  | .fn _, v, h => by
    unfold Rel at h
    exact h.elim
theorem RelL.less (l : Less ρ ρ') : ∀ (ds : List D) (vs : List V), RelL Γ ρ H ds vs → RelL Γ ρ' H ds vs
  | [], vs, h => by
    unfold RelL at h ⊢
    exact h
  | d :: ds, vs, h => by
    unfold RelL at h ⊢
    obtain ⟨v, q, e1, h1, h2⟩ := h
    exact ⟨v, q, e1, Rel.less l d v h1, RelL.less l ds q h2⟩
end
def unname (ρ : Loc) (k : Int) : Loc := fun m => if m = k then none else ρ m
theorem unname_less {k : Int} (hk : k < 0) : Less ρ (unname ρ k) where
  sub := fun n a h => by
    unfold unname at h
    by_cases e : n = k
    · rw [if_pos e] at h
      cases h
    · rw [if_neg e] at h
      exact h
  nat := fun n => if_neg (by omega)
theorem Rm.unhide {k : Int} (r : Rm Γ ρ S H) (hk : k < 0) : Rm Γ (unname ρ k) S H where
  at_ := fun n o e => by
    obtain ⟨a, h1, h2⟩ := r.at_ n o e
    refine ⟨a, ((unname_less hk).nat n).trans h1, ?_⟩
    cases o with
    | lst ds =>
      obtain ⟨vs, h3, h4⟩ := h2
      exact ⟨vs, h3, RelL.less (unname_less hk) ds vs h4⟩
    | dic _ _ => exact h2.elim
  inj := fun n m a h1 h2 => r.inj n m a ((unname_less hk).sub n a h1) ((unname_less hk).sub m a h2)
  dom := fun n a h => r.dom n a ((unname_less hk).sub n a h)
  lst := fun n a h => r.lst n a ((unname_less hk).sub n a h)
  low := by
    obtain ⟨B, hB⟩ := r.low
    exact ⟨B, fun n a h => hB n a ((unname_less hk).sub n a h)⟩
  tab := r.tab
theorem Ext.unhide {k : Int} (e : Ext ρ H ρ' H') (hk : ρ k = none) : Ext ρ H (unname ρ' k) H' where
  up := fun n a h => by
    unfold unname
    rw [if_neg fun z => by rw [z, hk] at h; cases h]
    exact e.up n a h
  new := fun n a h => by
    unfold unname at h
    by_cases q : n = k
    · rw [if_pos q] at h
      cases h
    · rw [if_neg q] at h
      exact e.new n a h
  frm := e.frm
  liv := e.liv
  hid := e.hid
/-- a place for a list that is being made -/
theorem Rm.place (r : Rm Γ ρ S H) : ∃ k : Int, k < 0 ∧ ρ k = none := by
  obtain ⟨B, hB⟩ := r.low
  refine ⟨min B 0 - 1, by omega, ?_⟩
  cases h : ρ (min B 0 - 1) with
  | none => rfl
  | some a =>
    have := hB _ a h
    omega
/-! ### what is known of a value, names looked up -/
/-- as Rel; a list of any kind is read -/
def RelT (Γ : Gd) (ρ : Loc) (H : Hp) : D → V → Prop
  | .lst ds, v => ∃ a vs, v = .ref a ∧ H a = some (.lst vs) ∧ RelL Γ ρ H ds vs
  | d, v => Rel Γ ρ H d v
theorem Rel.look (r : Rm Γ ρ S H) {d : D} {v : V} (h : Rel Γ ρ H d v) : RelT Γ ρ H (d.look S) v := by
  cases d with
  | ref n =>
    have h0 := h
    unfold Rel at h
    obtain ⟨a, e1, h1⟩ := h
    cases e : S[n]? with
    | none =>
      have z : (D.ref n).look S = .ref n := by
        show (match S[n]? with
          | some (SO.lst xs) => D.lst xs
          | some (SO.dic ks vs) => D.dic ks vs
          | none => D.ref n) = _
        rw [e]
      rw [z]
      exact h0
    | some o =>
      obtain ⟨b, hb, q⟩ := r.at_ n o e
      rw [h1] at hb
      cases hb
      cases o with
      | lst ds =>
        obtain ⟨vs, q1, q2⟩ := q
        have z : (D.ref n).look S = .lst ds := by
          show (match S[n]? with
            | some (SO.lst xs) => D.lst xs
            | some (SO.dic ks vs) => D.dic ks vs
            | none => D.ref n) = _
          rw [e]
        rw [z]
        exact ⟨a, vs, e1, q1, q2⟩
      | dic _ _ => exact q.elim
  | lst ds =>
    unfold Rel at h
    obtain ⟨a, vs, e1, ⟨h1, _⟩, h2⟩ := h
    exact ⟨a, vs, e1, h1, h2⟩
  | non => exact h
  | bl _ => exact h
  | int _ => exact h
  | str _ => exact h
  | tup _ => exact h
  | dic _ _ => exact h
  | frl _ => exact h
  | wdi _ _ => exact h
  | fn _ => exact h
end
end Ev
set_option Elab.async false
set_option linter.all false
set_option maxRecDepth 100000
set_option maxHeartbeats 4000000
/-! E3: the operations by values: what the evaluator says of them is so on the heap. -/
namespace Ev
open PySem PySem.Spec PyProof.Rows L2 TL

def okV (Γ : Gd) (ρ : Loc) (S : Sto) (H : Hp) (o : Option D) (Q : VK) : Prop := ∃ d, o = some d ∧ ∀ ρ' H' v, Ext ρ H ρ' H' → Rm Γ ρ' S H' → Rel Γ ρ' H' d v → Q v H'
section
variable {X : Cx} {Γ : Gd} {ρ : Loc} {S : Sto} {H : Hp} {Q : VK} {d : D} {v : V}
theorem okV.here {o : Option D} (h : okV Γ ρ S H o Q) (r : Rm Γ ρ S H) (e : o = some d) (q : Rel Γ ρ H d v) : Q v H := by
  obtain ⟨d', e', h⟩ := h
  rw [e] at e'
  cases e'
  exact h ρ H v (Ext.refl ρ H) r q
theorem okV.newTup {o : Option D} {ds : List D} {vs : List V} (h : okV Γ ρ S H o Q) (r : Rm Γ ρ S H) (e : o = some (.tup ds)) (q : RelL Γ ρ H ds vs) {p : Addr} (hp : H p = none) : Q (.ref p) (upd H p (.tup vs)) := by
  obtain ⟨d', e', h⟩ := h
  rw [e] at e'
  cases e'
  refine h ρ _ _ (Ext.grow hp) (r.grow hp) ?_
  unfold Rel
  exact ⟨p, vs, rfl, SqT.of upd_same, RelL.ext r (Ext.grow hp) ds vs q⟩
theorem okV.newLst {o : Option D} {ds : List D} {vs : List V} (h : okV Γ ρ S H o Q) (r : Rm Γ ρ S H) (e : o = some (.lst ds)) (q : RelL Γ ρ H ds vs) {p : Addr} (hp : H p = none) : Q (.ref p) (upd H p (.lst vs)) := by
  obtain ⟨d', e', h⟩ := h
  rw [e] at e'
  cases e'
  refine h ρ _ _ (Ext.grow hp) (r.grow hp) ?_
  unfold Rel
  exact ⟨p, vs, rfl, ⟨upd_same, r.fresh hp⟩, RelL.ext r (Ext.grow hp) ds vs q⟩
/-! ### readings of the relation -/
theorem rT_int {i : Int} : RelT Γ ρ H (.int i) v ↔ v = .int i := by unfold RelT Rel; exact Iff.rfl
theorem rT_bl {i : Bool} : RelT Γ ρ H (.bl i) v ↔ v = .bl i := by unfold RelT Rel; exact Iff.rfl
theorem rT_non : RelT Γ ρ H .non v ↔ v = .non := by unfold RelT Rel; exact Iff.rfl
theorem rT_str {x : List Nat} : RelT Γ ρ H (.str x) v ↔ v = .str ⟨x.toArray⟩ ∧ x.length ≤ sizeLine := by unfold RelT Rel; exact Iff.rfl
theorem rT_tup {x : List D} : RelT Γ ρ H (.tup x) v ↔ ∃ a vs, v = .ref a ∧ SqT Γ.K H a vs ∧ RelL Γ ρ H x vs := by unfold RelT Rel; exact Iff.rfl
theorem rT_lst {x : List D} : RelT Γ ρ H (.lst x) v ↔ ∃ a vs, v = .ref a ∧ H a = some (.lst vs) ∧ RelL Γ ρ H x vs := by unfold RelT; exact Iff.rfl
theorem rT_frl {x : List D} : RelT Γ ρ H (.frl x) v ↔ ∃ a vs o, v = .ref a ∧ H a = some (.frz o (.lst vs)) ∧ RelL Γ ρ H x vs := by unfold RelT Rel; exact Iff.rfl
theorem rT_dic {ks ds : List D} : RelT Γ ρ H (.dic ks ds) v ↔ ∃ a kvs, v = .ref a ∧ DicAt ρ H a kvs ∧ ks.map keyD = kvs.map (fun p => some p.1) ∧ RelL Γ ρ H ds (kvs.map (·.2)) := by unfold RelT Rel; exact Iff.rfl
theorem rT_wdi {ks ds : List D} : RelT Γ ρ H (.wdi ks ds) v ↔ ∃ a kvs, v = .ref a ∧ WdAt Γ a kvs ∧ ks.map keyD = kvs.map (fun p => some p.1) ∧ RelL Γ ρ H ds (kvs.map (·.2)) := by unfold RelT Rel; exact Iff.rfl
theorem rT_ref {n : Nat} : RelT Γ ρ H (.ref n) v ↔ ∃ a, v = .ref a ∧ ρ n = some a := by unfold RelT Rel; exact Iff.rfl
theorem rT_fn {n : Nat} : RelT Γ ρ H (.fn n) v ↔ False := by unfold RelT Rel; exact Iff.rfl
theorem rel_int {i : Int} : Rel Γ ρ H (.int i) (.int i) := by unfold Rel; rfl
theorem rel_bl {i : Bool} : Rel Γ ρ H (.bl i) (.bl i) := by unfold Rel; rfl
theorem rel_non : Rel Γ ρ H .non .non := by unfold Rel; rfl
theorem rel_str {x : List Nat} (h : x.length ≤ sizeLine) : Rel Γ ρ H (.str x) (.str ⟨x.toArray⟩) := by unfold Rel; exact ⟨rfl, h⟩
theorem line_le : LINE ≤ sizeLine := by rw [sizeLine_eq]; decide
theorem small64_ok {i : Int} (h : small64 i = true) : -(2 ^ 64) < i ∧ i < 2 ^ 64 := by
  unfold small64 at h
  simp only [Bool.and_eq_true, decide_eq_true_eq] at h
  exact h
theorem some_of_ite {α : Type} {c : Bool} {a b : α} (h : (if c = true then some a else none) = some b) : c = true ∧ a = b := by
  cases c with
  | true => exact ⟨rfl, Option.some.inj h⟩
  | false => cases h
theorem catOk_ok {m n : Nat} (h : catOk m n = true) : m + n ≤ sizeLine := by
  unfold catOk at h
  simp only [Bool.and_eq_true, decide_eq_true_eq] at h
  have e : LINE = 1000000 := rfl
  have e2 := sizeLine_eq
  omega
theorem str_append (x y : List Nat) : (⟨x.toArray⟩ : Str) ++ (⟨y.toArray⟩ : Str) = ⟨(x ++ y).toArray⟩ := by
  apply ext_tl
  rw [tl_append]
theorem str_length (x : List Nat) : (⟨x.toArray⟩ : Str).length = x.length := rfl

theorem fold_rep (a : List Nat) : ∀ (m : Nat) (acc : Array Nat), (List.replicate m a.toArray).foldl (· ++ ·) acc = acc ++ (List.replicate m a).flatten.toArray
  | 0, acc => by simp
  | m + 1, acc => by
    rw [List.replicate_succ, List.foldl_cons, fold_rep a m, List.replicate_succ, List.flatten_cons]
    simp [Array.append_assoc]
theorem op_mul_str : OpR X (binaryOp .Mult) (fun x y H Q => ∃ (a : List Nat) (j : Int), x = .str ⟨a.toArray⟩ ∧ y = .int j ∧ a.length ≤ 1000 ∧ 0 ≤ j ∧ j ≤ 1000 ∧ Q (.str ⟨((List.replicate j.toNat a).flatten).toArray⟩) H) := by
  intro pins s σ H x y v u Q I rx ry h
  obtain ⟨a, j, rfl, rfl, h1, h2, h3, q⟩ := h
  obtain ⟨t, rfl⟩ := rx
  obtain ⟨t', rfl⟩ := ry
  have hz : a.length * j.toNat ≤ 1000000 := by
    have h4 : j.toNat ≤ 1000 := by omega
    exact Nat.le_trans (Nat.mul_le_mul h1 h4) (by decide)
  refine PySem.P.mul_str (by simp; omega) (fun h4 _ => ?_) (fun h4 _ => ?_) ?_
  · rw [str_length]
    have h5 : (1000 : Int) ≤ (2 ^ 63 - 1) / j := Int.le_ediv_of_mul_le (by omega) (by omega)
    omega
  · rw [str_length]
    have e := sizeLine_eq
    unfold Builtin.Str.tooLong
    simp
    omega
  · by_cases h4 : j < 1
    · rw [if_pos h4]
      have e0 : j.toNat = 0 := by omega
      rw [e0] at q
      exact ⟨by decide, V.str _, H, I.tok _, ⟨_, rfl⟩, q⟩
    · rw [if_neg h4]
      by_cases h5 : (j == 1 || (⟨a.toArray⟩ : Str).length == 0) = true
      · rw [if_pos h5]
        have e0 : (List.replicate j.toNat a).flatten = a := by
          rcases Bool.or_eq_true_iff.mp h5 with h6 | h6
          · have : j = 1 := by simpa using h6
            subst this
            simp
          · have h7 : a.length = 0 := by simpa [Str.length] using h6
            have h8 : a = [] := List.length_eq_zero_iff.mp h7
            subst h8
            simp
        rw [e0] at q
        exact ⟨V.str _, H, I, ⟨t, rfl⟩, q⟩
      · rw [if_neg h5]
        have e0 := fold_rep a j.toNat #[]
        rw [show (#[] : Array Nat) ++ (List.replicate j.toNat a).flatten.toArray = (List.replicate j.toNat a).flatten.toArray by simp] at e0
        refine ⟨?_, V.str _, H, I.tok _, ⟨_, rfl⟩, ?_⟩
        · rw [e0]
          show (List.replicate j.toNat a).flatten.toArray.size ≤ sizeLine
          rw [List.size_toArray, PyProof.Rows.lm_len_rep_flat, Nat.mul_comm, sizeLine_eq]
          omega
        · rw [e0]
          exact q

/-- what two operands ask -/
def rB (Γ : Gd) (f : D → D → Option D) : R2 := fun x y H Q => ∃ ρ S dx dy, Rm Γ ρ S H ∧ RelT Γ ρ H dx x ∧ RelT Γ ρ H dy y ∧ okV Γ ρ S H (f dx dy) Q
theorem bop_ok (hK : Γ.K = X.K) (o : Operator) : OpR X (binaryOp o) (rB Γ (bopD o)) := by
  intro pins s σ H x y v u Q I rx ry h
  obtain ⟨ρ, S, dx, dy, r, hx, hy, q⟩ := h
  obtain ⟨d, e, _⟩ := id q
  unfold bopD at e
  split at e
  all_goals first | (cases e; done) | skip
  · rename_i i j
    cases rT_int.mp hx
    cases rT_int.mp hy
    exact op_add pins s σ H _ _ v u Q I rx ry ⟨i, j, rfl, rfl, q.here r rfl rel_int⟩
  · rename_i i j
    cases rT_int.mp hx
    cases rT_int.mp hy
    exact op_sub pins s σ H _ _ v u Q I rx ry ⟨i, j, rfl, rfl, q.here r rfl rel_int⟩
  · rename_i i j
    cases rT_int.mp hx
    cases rT_int.mp hy
    obtain ⟨c, _⟩ := some_of_ite e
    have c' := Bool.or_eq_true_iff.mp c
    refine op_mul pins s σ H _ _ v u Q I rx ry ⟨i, j, rfl, rfl, ?_, q.here r (if_pos c) rel_int⟩
    exact c'.imp small64_ok small64_ok
  · rename_i i j
    cases rT_int.mp hx
    cases rT_int.mp hy
    obtain ⟨c, _⟩ := some_of_ite e
    have c' := c
    simp only [Bool.and_eq_true, decide_eq_true_eq] at c'
    exact op_fdiv pins s σ H _ _ v u Q I rx ry ⟨i, j, rfl, rfl, c', q.here r (if_pos c) rel_int⟩
  · rename_i i j
    cases rT_int.mp hx
    cases rT_int.mp hy
    obtain ⟨c, _⟩ := some_of_ite e
    exact op_mod pins s σ H _ _ v u Q I rx ry ⟨i, j, rfl, rfl, of_decide_eq_true c, q.here r (if_pos c) rel_int⟩
  · rename_i i j
    cases rT_int.mp hx
    cases rT_int.mp hy
    obtain ⟨c, _⟩ := some_of_ite e
    have c' := c
    simp only [Bool.and_eq_true, decide_eq_true_eq] at c'
    have z := small64_ok c'.2
    refine op_pow pins s σ H _ _ v u Q I rx ry ⟨i, j, rfl, rfl, ⟨c'.1.1, by omega, ?_⟩, q.here r (if_pos c) rel_int⟩
    have e2 : (2 : Nat) ^ 64 = 18446744073709551616 := by decide
    have e3 : (2 : Int) ^ 64 = 18446744073709551616 := by decide
    omega
  · rename_i a b
    obtain ⟨rfl, hl1⟩ := rT_str.mp hx
    obtain ⟨rfl, hl2⟩ := rT_str.mp hy
    obtain ⟨c, _⟩ := some_of_ite e
    have hl := catOk_ok c
    refine op_add_str pins s σ H _ _ v u Q I rx ry ⟨_, _, rfl, rfl, by rw [str_length, str_length]; exact hl, ?_⟩
    rw [str_append]
    exact q.here r (if_pos c) (rel_str (by rw [List.length_append]; exact hl))
  · rename_i a b
    obtain ⟨p, xs, rfl, h1, h2⟩ := rT_tup.mp hx
    obtain ⟨p', ys, rfl, h1', h2'⟩ := rT_tup.mp hy
    obtain ⟨c, _⟩ := some_of_ite e
    have hl := catOk_ok c
    rw [hK] at h1 h1'
    refine op_catA pins s σ H _ _ v u Q I rx ry ⟨p, p', xs, ys, rfl, rfl, h1, h1', by rw [← h2.length, ← h2'.length]; exact hl, fun z => ?_, fun z z' => ?_, fun z z' p hp => ?_⟩
    · subst z
      have ha : a = [] := List.length_eq_zero_iff.mp h2.length
      subst ha
      refine q.here r (if_pos c) ?_
      unfold Rel
      exact ⟨p', ys, rfl, by rw [hK]; exact h1', h2'⟩
    · subst z'
      have ha : b = [] := List.length_eq_zero_iff.mp h2'.length
      subst ha
      refine q.here r (if_pos c) ?_
      unfold Rel
      rw [List.append_nil]
      exact ⟨p, xs, rfl, by rw [hK]; exact h1, h2⟩
    · exact q.newTup r (if_pos c) (h2.append h2') hp
  · rename_i a b
    obtain ⟨p, xs, rfl, h1, h2⟩ := rT_lst.mp hx
    obtain ⟨p', ys, rfl, h1', h2'⟩ := rT_lst.mp hy
    obtain ⟨c, _⟩ := some_of_ite e
    have hl := catOk_ok c
    exact op_cat pins s σ H _ _ v u Q I rx ry ⟨p, p', xs, ys, rfl, rfl, h1, h1', by rw [← h2.length, ← h2'.length]; exact hl, fun p hp => q.newLst r (if_pos c) (h2.append h2') hp⟩
  · rename_i a j
    obtain ⟨rfl, hl1⟩ := rT_str.mp hx
    cases rT_int.mp hy
    obtain ⟨c, _⟩ := some_of_ite e
    have c' := c
    simp only [Bool.and_eq_true, decide_eq_true_eq] at c'
    refine op_mul_str pins s σ H _ _ v u Q I rx ry ⟨a, j, rfl, rfl, c'.1.1, c'.1.2, c'.2, q.here r (if_pos c) (rel_str ?_)⟩
    have h3 : j.toNat ≤ 1000 := by omega
    have hz := Nat.mul_le_mul c'.1.1 h3
    rw [PyProof.Rows.lm_len_rep_flat, Nat.mul_comm, sizeLine_eq]
    omega
  · rename_i a j
    obtain ⟨p, xs, rfl, h1, h2⟩ := rT_lst.mp hx
    cases rT_int.mp hy
    obtain ⟨c, _⟩ := some_of_ite e
    have c' := c
    simp only [Bool.and_eq_true, decide_eq_true_eq] at c'
    refine op_rep pins s σ H _ _ v u Q I rx ry ⟨p, j, xs, rfl, rfl, h1, by omega, by omega, ?_, fun p hp => q.newLst r (if_pos c) (h2.flat j.toNat) hp⟩
    rw [← h2.length, sizeLine_eq]
    have h3 : j.toNat ≤ 1000 := by omega
    calc a.length * j.toNat ≤ 1000 * 1000 := Nat.mul_le_mul c'.1.1 h3
      _ ≤ 16777216 := by decide

/-! ### data of the library -/
mutual
theorem rel_py : ∀ (d : D) (v : V) (p : PyData), Rel Γ ρ H d v → d.py = some p → Dp Γ.K H v p
  | .non, v, p, h, e => by
    unfold Rel at h
    unfold D.py at e
    cases e
    subst h
    exact .non
  | .bl b, v, p, h, e => by
    unfold Rel at h
    unfold D.py at e
    cases e
    subst h
    exact .bl b
  | .int b, v, p, h, e => by
    unfold Rel at h
    unfold D.py at e
    cases e
    subst h
    exact .int b
  | .str b, v, p, h, e => by
    unfold Rel at h
    unfold D.py at e
    cases e
    obtain ⟨rfl, _⟩ := h
    exact .str _
  | .tup ds, v, p, h, e => by
    unfold Rel at h
    unfold D.py at e
    obtain ⟨a, vs, rfl, h1, h2⟩ := h
    obtain ⟨ps, e1, rfl⟩ := Option.map_eq_some_iff.mp e
    exact .tup h1 (relL_py ds vs ps h2 e1)
  | .lst ds, v, p, h, e => by
    unfold Rel at h
    unfold D.py at e
    obtain ⟨a, vs, rfl, h1, h2⟩ := h
    obtain ⟨ps, e1, rfl⟩ := Option.map_eq_some_iff.mp e
    exact .lst (SqL.of h1.1) (relL_py ds vs ps h2 e1)
  | .frl ds, v, p, h, e => by
    unfold Rel at h
    unfold D.py at e
    obtain ⟨a, vs, o, rfl, h1, h2⟩ := h
    obtain ⟨ps, e1, rfl⟩ := Option.map_eq_some_iff.mp e
    exact .lst (.inl (.inr ⟨o, h1⟩)) (relL_py ds vs ps h2 e1)
  | .dic _ _, v, p, h, e => by
    unfold D.py at e
    cases e
  | .wdi _ _, v, p, h, e => by
    unfold D.py at e
    cases e
  | .ref _, v, p, h, e => by
    unfold D.py at e
    cases e
  | .fn _, v, p, h, e => by
    unfold D.py at e
    cases e
theorem relL_py : ∀ (ds : List D) (vs : List V) (ps : List PyData), RelL Γ ρ H ds vs → D.py.pys ds = some ps → DpAll Γ.K H vs ps
  | [], vs, ps, h, e => by
    unfold D.py.pys at e
    cases e
    rw [relL_nil.mp h]
    exact .nil
  | d :: ds, vs, ps, h, e => by
    unfold D.py.pys at e
    obtain ⟨v, r, rfl, h1, h2⟩ := relL_cons.mp h
    cases e1 : d.py with
    | none =>
      rw [e1] at e
      cases e
    | some p =>
      cases e2 : D.py.pys ds with
      | none =>
        rw [e1, e2] at e
        cases e
      | some qs =>
        rw [e1, e2] at e
        cases e
        exact .cons (rel_py d v p h1 e1) (relL_py ds r qs h2 e2)
end
theorem relT_py {d : D} {p : PyData} (h : RelT Γ ρ H d v) (e : d.py = some p) : Dp Γ.K H v p := by
  cases d with
  | lst ds =>
    obtain ⟨a, vs, rfl, h1, h2⟩ := rT_lst.mp h
    unfold D.py at e
    obtain ⟨ps, e1, rfl⟩ := Option.map_eq_some_iff.mp e
    exact .lst (SqL.of h1) (relL_py ds vs ps h2 e1)
  | _ => exact rel_py _ _ _ h e
theorem arr_eq {a b : List Nat} : ((⟨a.toArray⟩ : Str) == ⟨b.toArray⟩) = decide (a = b) := by
  by_cases h : a = b
  · subst h
    simp
  · rw [decide_eq_false h]
    refine beq_eq_false_iff_ne.mpr fun z => h ?_
    have := congrArg Str.cps z
    simpa using this
theorem flatD_V {d : D} (h : flatD d = true) (q : RelT Γ ρ H d v) : flatV v = true := by
  cases d with
  | non => rw [rT_non.mp q]; rfl
  | bl b => rw [rT_bl.mp q]; rfl
  | int b => rw [rT_int.mp q]; rfl
  | str b => rw [(rT_str.mp q).1]; rfl
  | _ => cases h
theorem rel_rT {d : D} (h : Rel Γ ρ H d v) : RelT Γ ρ H d v := by
  cases d with
  | lst ds =>
    unfold Rel at h
    obtain ⟨a, vs, e1, ⟨h1, _⟩, h2⟩ := h
    exact ⟨a, vs, e1, h1, h2⟩
  | _ => exact h
theorem feq_V {a b : D} {x y : V} (ha : flatD a = true) (hb : flatD b = true) (qa : RelT Γ ρ H a x) (qb : RelT Γ ρ H b y) : eqV x y = feqD a b := by
  cases a with
  | non =>
    cases rT_non.mp qa
    cases b with
    | non => cases rT_non.mp qb; rfl
    | bl _ => cases rT_bl.mp qb; rfl
    | int _ => cases rT_int.mp qb; rfl
    | str _ => cases (rT_str.mp qb).1; rfl
    | _ => cases hb
  | bl _ =>
    cases rT_bl.mp qa
    cases b with
    | non => cases rT_non.mp qb; rfl
    | bl _ => cases rT_bl.mp qb; rfl
    | int _ => cases rT_int.mp qb; rfl
    | str _ => cases (rT_str.mp qb).1; rfl
    | _ => cases hb
  | int _ =>
    cases rT_int.mp qa
    cases b with
    | non => cases rT_non.mp qb; rfl
    | bl _ => cases rT_bl.mp qb; rfl
    | int _ => cases rT_int.mp qb; rfl
    | str _ => cases (rT_str.mp qb).1; rfl
    | _ => cases hb
  | str _ =>
    cases (rT_str.mp qa).1
    cases b with
    | non => cases rT_non.mp qb; rfl
    | bl _ => cases rT_bl.mp qb; rfl
    | int _ => cases rT_int.mp qb; rfl
    | str _ => cases (rT_str.mp qb).1; exact arr_eq
    | _ => cases hb
  | _ => cases ha
theorem flats_V : ∀ {ys : List D} {vs : List V}, ys.all flatD = true → RelL Γ ρ H ys vs → vs.all flatV = true
  | [], vs, _, h => by
    rw [relL_nil.mp h]
    rfl
  | y :: ys, vs, ha, h => by
    obtain ⟨v, r, rfl, h1, h2⟩ := relL_cons.mp h
    rw [List.all_cons, Bool.and_eq_true] at ha
    rw [List.all_cons, flatD_V ha.1 (rel_rT h1), flats_V ha.2 h2]
    rfl
theorem flats_in {x : D} {z : V} (hx : flatD x = true) (q : RelT Γ ρ H x z) : ∀ {ys : List D} {vs : List V}, ys.all flatD = true → RelL Γ ρ H ys vs → inV z vs = ys.any fun y => feqD y x
  | [], vs, _, h => by
    rw [relL_nil.mp h]
    rfl
  | y :: ys, vs, ha, h => by
    obtain ⟨v, r, rfl, h1, h2⟩ := relL_cons.mp h
    rw [List.all_cons, Bool.and_eq_true] at ha
    have ih := flats_in hx q ha.2 h2
    unfold inV at ih ⊢
    rw [List.any_cons, List.any_cons, ih, feq_V ha.1 hx (rel_rT h1) q]
theorem scal_V {a b : D} {x y : V} (h : scalD a b = true) (qa : RelT Γ ρ H a x) (qb : RelT Γ ρ H b y) : scal x y = true ∧ decide (x = y) = feqD a b := by
  cases a with
  | non =>
    cases rT_non.mp qa
    cases b with
    | non => cases rT_non.mp qb; exact ⟨rfl, rfl⟩
    | bl _ => cases rT_bl.mp qb; exact ⟨rfl, rfl⟩
    | int _ => cases rT_int.mp qb; exact ⟨rfl, rfl⟩
    | str _ => cases (rT_str.mp qb).1; exact ⟨rfl, rfl⟩
    | _ => cases h
  | bl _ =>
    cases rT_bl.mp qa
    cases b with
    | non => cases rT_non.mp qb; exact ⟨rfl, rfl⟩
    | bl _ => cases rT_bl.mp qb; exact ⟨rfl, dec_bl⟩
    | str _ => cases (rT_str.mp qb).1; exact ⟨rfl, rfl⟩
    | _ => cases h
  | int _ =>
    cases rT_int.mp qa
    cases b with
    | non => cases rT_non.mp qb; exact ⟨rfl, rfl⟩
    | int _ => cases rT_int.mp qb; exact ⟨rfl, dec_int⟩
    | str _ => cases (rT_str.mp qb).1; exact ⟨rfl, rfl⟩
    | _ => cases h
  | str _ =>
    cases (rT_str.mp qa).1
    cases b with
    | non => cases rT_non.mp qb; exact ⟨rfl, rfl⟩
    | bl _ => cases rT_bl.mp qb; exact ⟨rfl, rfl⟩
    | int _ => cases rT_int.mp qb; exact ⟨rfl, rfl⟩
    | str _ => cases (rT_str.mp qb).1; exact ⟨rfl, dec_str.trans arr_eq⟩
    | _ => cases h
  | _ => cases h
/-- == by the library's data -/
theorem deq_ok {a b : D} {k : Bool} (h : ¬ scalD a b = true) (e : deq a b = some k) : ∃ p q, a.py = some p ∧ b.py = some q ∧ SeqAt.shaped p = true ∧ SeqAt.shaped q = true ∧ PyData.eqv p q = k := by
  unfold deq at e
  rw [if_neg h] at e
  cases e1 : a.py with
  | none =>
    rw [e1] at e
    cases e
  | some p =>
    cases e2 : b.py with
    | none =>
      rw [e1, e2] at e
      cases e
    | some q =>
      rw [e1, e2] at e
      have e' : (if (SeqAt.shaped p && SeqAt.shaped q) = true then some (PyData.eqv p q) else none) = some k := e
      obtain ⟨c, e3⟩ := some_of_ite e'
      obtain ⟨c1, c2⟩ := Bool.and_eq_true_iff.mp c
      exact ⟨p, q, rfl, rfl, c1, c2, e3⟩
theorem inD_ok {x : D} {ys : List D} {k : Bool} (h : ¬ (flatD x && ys.all flatD) = true) (e : inD x ys = some k) : ∃ d ds, x.py = some d ∧ D.py.pys ys = some ds ∧ SeqAt.shaped d = true ∧ SeqAt.shaped (.list ds) = true ∧ (ds.any fun z => PyData.eqv z d) = k := by
  unfold inD at e
  rw [if_neg h] at e
  cases e1 : x.py with
  | none =>
    rw [e1] at e
    cases e
  | some p =>
    cases e2 : D.py.pys ys with
    | none =>
      rw [e1, e2] at e
      cases e
    | some q =>
      rw [e1, e2] at e
      have e' : (if (SeqAt.shaped p && SeqAt.shaped (.list q)) = true then some (q.any fun z => PyData.eqv z p) else none) = some k := e
      obtain ⟨c, e3⟩ := some_of_ite e'
      obtain ⟨c1, c2⟩ := Bool.and_eq_true_iff.mp c
      exact ⟨p, q, rfl, rfl, c1, c2, e3⟩
theorem op_inDT (hu : X.A.units + 65 < cLine) : OpR X (compareOp .In) (fun x y H Q => ∃ d ds, Dp X.K H x d ∧ Dp X.K H y (.tuple ds) ∧ SeqAt.shaped d = true ∧ SeqAt.shaped (.list ds) = true ∧ Q (.bl (ds.any fun z => PyData.eqv z d)) H) := by
  intro pins s σ H x y v u Q I rx ry h
  obtain ⟨d, ds, hd, he, sd, se, q⟩ := h
  obtain ⟨as, r1⟩ := Dp.reads I d x v hd rx
  obtain ⟨bs, r2⟩ := Dp.reads I (.tuple ds) y u he ry
  exact SeqAt.in_tuple_reads r2 r1 (SeqAt.canLay_of_shaped se) (SeqAt.canLay_of_shaped sd) (room_in_shaped sd hu) ⟨.bl _, H, I, rfl, q⟩
theorem op_notInDT (hu : X.A.units + 65 < cLine) : OpR X (compareOp .NotIn) (fun x y H Q => ∃ d ds, Dp X.K H x d ∧ Dp X.K H y (.tuple ds) ∧ SeqAt.shaped d = true ∧ SeqAt.shaped (.list ds) = true ∧ Q (.bl (!ds.any fun z => PyData.eqv z d)) H) := by
  intro pins s σ H x y v u Q I rx ry h
  obtain ⟨d, ds, hd, he, sd, se, q⟩ := h
  obtain ⟨as, r1⟩ := Dp.reads I d x v hd rx
  obtain ⟨bs, r2⟩ := Dp.reads I (.tuple ds) y u he ry
  exact SeqAt.notIn_tuple_reads r2 r1 (SeqAt.canLay_of_shaped se) (SeqAt.canLay_of_shaped sd) (room_in_shaped sd hu) ⟨.bl _, H, I, rfl, q⟩
/-! ### dicts -/
theorem key_is {k : D} {y : V} (h : RelT Γ ρ H k y) (hk : isKeyD k = true) : ∃ z, keyD k = some z ∧ y = kV z := by
  cases k with
  | int i => exact ⟨.inl i, rfl, rT_int.mp h⟩
  | str x => exact ⟨.inr ⟨x.toArray⟩, rfl, (rT_str.mp h).1⟩
  | _ => cases hk
theorem keyD_eq {a k : D} {x z : Key} (ha : keyD a = some x) (hk : keyD k = some z) : keyIsD a k = decide (x = z) := by
  cases a with
  | int i =>
    cases k with
    | int j =>
      cases ha
      cases hk
      show decide (i = j) = decide ((Sum.inl i : Key) = Sum.inl j)
      by_cases e : i = j
      · rw [e]
        simp
      · rw [decide_eq_false e, decide_eq_false fun q => e (Sum.inl.inj q)]
    | str y =>
      cases ha
      cases hk
      exact (key_lr i _).symm
    | _ => cases hk
  | str w =>
    cases k with
    | int j =>
      cases ha
      cases hk
      exact (key_rl _ j).symm
    | str y =>
      cases ha
      cases hk
      show decide (w = y) = decide ((Sum.inr _ : Key) = Sum.inr _)
      rw [key_rr]
      by_cases e : w = y
      · rw [e]
        simp
      · rw [decide_eq_false e]
        refine (decide_eq_false fun z => e ?_).symm
        have := congrArg Str.cps z
        simpa using this
    | _ => cases hk
  | _ => cases ha
def OpRel (Γ : Gd) (ρ : Loc) (H : Hp) (o : Option D) (v : Option V) : Prop := match o, v with
  | some d, some v => Rel Γ ρ H d v
  | none, none => True
  | _, _ => False
theorem OpRel.isSome {o : Option D} {v : Option V} (h : OpRel Γ ρ H o v) : v.isSome = o.isSome := by
  cases o <;> cases v <;> first | rfl | exact h.elim
theorem find_val {k : D} {z : Key} (hk : keyD k = some z) : ∀ {ks ds : List D} {kvs : List (Key × V)}, ks.map keyD = kvs.map (fun p => some p.1) → RelL Γ ρ H ds (kvs.map (·.2)) →
    OpRel Γ ρ H (((ks.zip ds).find? fun p => keyIsD p.1 k).map (·.2)) (valV kvs z)
  | [], ds, kvs, e, h => by
    cases kvs with
    | nil => exact True.intro
    | cons p r => cases e
  | a :: ks, ds, kvs, e, h => by
    cases kvs with
    | nil => cases e
    | cons p r =>
      rw [List.map_cons, List.map_cons] at e
      injection e with e1 e2
      rw [List.map_cons] at h
      cases ds with
      | nil =>
        rw [relL_nil] at h
        cases h
      | cons d ds =>
        obtain ⟨v, q, e3, h1, h2⟩ := relL_cons.mp h
        injection e3 with e4 e5
        subst e5
        have ek := keyD_eq e1 hk
        rw [List.zip_cons_cons, List.find?_cons]
        by_cases hh : p.1 = z
        · rw [decide_eq_true hh] at ek
          rw [valV_pos hh]
          simp only [ek]
          rw [e4]
          exact h1
        · rw [decide_eq_false hh] at ek
          rw [valV_neg hh]
          simp only [ek]
          exact find_val hk e2 h2
theorem look_get {k : D} {ks ds : List D} {kvs : List (Key × V)} {y : V} {o : Option D} (hk : RelT Γ ρ H k y) (e : ks.map keyD = kvs.map (fun p => some p.1)) (h : RelL Γ ρ H ds (kvs.map (·.2))) (l : lookD k ks ds = some o) :
    ∃ z, y = kV z ∧ OpRel Γ ρ H o (valV kvs z) := by
  unfold lookD at l
  obtain ⟨c, l⟩ := some_of_ite l
  obtain ⟨z, hz, e1⟩ := key_is hk c
  have := find_val (Γ := Γ) (ρ := ρ) (H := H) hz e h
  rw [l] at this
  exact ⟨z, e1, this⟩
/-- x in y, x not in y -/
def inOp (neg : Bool) : CmpOp := if neg then .NotIn else .In
def inK (neg b : Bool) : Bool := if neg then !b else b
theorem in_ok (hK : Γ.K = X.K) (hw : Γ.w = X.w) (hu : X.A.units + 66 < cLine) (neg : Bool) : OpR X (compareOp (inOp neg)) (rB Γ fun a b => (inO a b).map fun k => .bl (inK neg k)) := by
  intro pins s σ H x y v u Q I rx ry h
  obtain ⟨ρ, S, dx, dy, r, hx, hy, q⟩ := h
  obtain ⟨d, e, _⟩ := id q
  obtain ⟨k, e1, e2⟩ := Option.map_eq_some_iff.mp e
  have qq : Q (.bl (inK neg k)) H := q.here r (by
    show Option.map _ (inO dx dy) = _
    rw [e1]
    rfl) rel_bl
  clear e q e2
  unfold inO at e1
  have seq : ∀ (ys : List D) (a : Addr) (vs : List V), inD dx ys = some k → y = .ref a → (SqL Γ.K H a vs ∨ SqT Γ.K H a vs) → RelL Γ ρ H ys vs → wpAny (model X.prog X.w) X.A (compareOp (inOp neg) v u) (EP X pins σ Q) X.xe s := by
    intro ys a vs e ey hs hl
    subst ey
    by_cases hf : (flatD dx && ys.all flatD) = true
    · obtain ⟨ha, hb⟩ := Bool.and_eq_true_iff.mp hf
      unfold inD at e
      rw [if_pos hf] at e
      have ek := (flats_in ha hx hb hl).trans (Option.some.inj e)
      cases neg with
      | false => exact op_in_seq pins s σ H _ _ v u Q I rx ry ⟨a, vs, rfl, by rw [← hK]; exact hs, flatD_V ha hx, flats_V hb hl, by rw [ek]; exact qq⟩
      | true => exact op_notIn_seq pins s σ H _ _ v u Q I rx ry ⟨a, vs, rfl, by rw [← hK]; exact hs, flatD_V ha hx, flats_V hb hl, by rw [ek]; exact qq⟩
    · obtain ⟨p, ps, ep, eps, s1, s2, ek⟩ := inD_ok hf e
      have dp : Dp X.K H x p := by rw [← hK]; exact relT_py hx ep
      have dps := relL_py ys vs ps hl eps
      rw [hK] at dps hs
      rcases hs with hs | hs
      · cases neg with
        | false => exact op_inD (by omega) pins s σ H _ _ v u Q I rx ry ⟨p, ps, dp, .lst hs dps, s1, s2, by rw [ek]; exact qq⟩
        | true => exact op_notInD (by omega) pins s σ H _ _ v u Q I rx ry ⟨p, ps, dp, .lst hs dps, s1, s2, by rw [ek]; exact qq⟩
      · cases neg with
        | false => exact op_inDT (by omega) pins s σ H _ _ v u Q I rx ry ⟨p, ps, dp, .tup hs dps, s1, s2, by rw [ek]; exact qq⟩
        | true => exact op_notInDT (by omega) pins s σ H _ _ v u Q I rx ry ⟨p, ps, dp, .tup hs dps, s1, s2, by rw [ek]; exact qq⟩
  split at e1
  · rename_i b
    split at e1
    · rename_i a
      unfold inStr at e1
      split at e1
      · rename_i c
        obtain ⟨rfl, _⟩ := rT_str.mp hx
        obtain ⟨rfl, _⟩ := rT_str.mp hy
        have ek : decide (c ∈ b) = k := by
          rw [← List.contains_eq_mem]
          exact Option.some.inj e1
        cases neg with
        | false => exact op_in_sign pins s σ H _ _ v u Q I rx ry ⟨c, _, rfl, rfl, by rw [show decide (c ∈ (⟨b.toArray⟩ : Str).cps.toList) = k from ek]; exact qq⟩
        | true => exact op_notIn_sign pins s σ H _ _ v u Q I rx ry ⟨c, _, rfl, rfl, by rw [show decide (c ∈ (⟨b.toArray⟩ : Str).cps.toList) = k from ek]; exact qq⟩
      · cases e1
    · cases e1
  · obtain ⟨a, vs, e3, h1, h2⟩ := rT_tup.mp hy
    exact seq _ a vs e1 e3 (.inr h1) h2
  · obtain ⟨a, vs, e3, h1, h2⟩ := rT_lst.mp hy
    exact seq _ a vs e1 e3 (.inl (SqL.of h1)) h2
  · obtain ⟨a, vs, o, e3, h1, h2⟩ := rT_frl.mp hy
    exact seq _ a vs e1 e3 (.inl (.inl (.inr ⟨o, h1⟩))) h2
  · rename_i ks vs
    obtain ⟨a, kvs, rfl, ⟨h1, _⟩, h2, h3⟩ := rT_dic.mp hy
    unfold hasKey at e1
    obtain ⟨o, e3, e4⟩ := Option.map_eq_some_iff.mp e1
    obtain ⟨z, rfl, h4⟩ := look_get hx h2 h3 e3
    have es := h4.isSome
    rw [e4] at es
    cases ry
    cases neg with
    | false => exact d_in (by omega) I (DGet.k h1) rx fun s' I' => ⟨.bl _, H, I', rfl, by rw [es]; exact qq⟩
    | true => exact d_notIn (by omega) I (DGet.k h1) rx fun s' I' => ⟨.bl _, H, I', rfl, by rw [es]; exact qq⟩
  · rename_i ks vs
    obtain ⟨a, kvs, rfl, ⟨⟨es, n, kd⟩, wg⟩, h2, h3⟩ := rT_wdi.mp hy
    unfold hasKeyW at e1
    obtain ⟨o, e3, e4⟩ := Option.map_eq_some_iff.mp e1
    unfold lookW at e3
    split at e3
    · rename_i a'
      obtain ⟨z, ez, h4⟩ := look_get hx h2 h3 e3
      obtain ⟨rfl, _⟩ := rT_str.mp hx
      have ez2 : z = Sum.inr ⟨a'.toArray⟩ := by
        cases z with
        | inl i => cases ez
        | inr w => cases ez; rfl
      subst ez2
      obtain ⟨r', e5, e6⟩ := wg ⟨a'.toArray⟩
      have es : r'.isSome = k := by
        rw [← e4, ← h4.isSome]
        cases hv : valV kvs (Sum.inr ⟨a'.toArray⟩) <;> cases r' <;> rw [hv] at e6 <;> first | rfl | exact e6.elim
      rw [hK] at e5
      rw [hK, hw] at kd
      cases neg with
      | false => exact op_in_kd kd pins s σ H _ _ v u Q I rx ry ⟨_, r', rfl, rfl, e5, by rw [es]; exact qq⟩
      | true => exact op_notIn_kd kd pins s σ H _ _ v u Q I rx ry ⟨_, r', rfl, rfl, e5, by rw [es]; exact qq⟩
    · cases e3
  · cases e1
/-- two operands compared -/
theorem cmp_ok (hK : Γ.K = X.K) (hw : Γ.w = X.w) (hu : X.A.units + 66 < cLine) (o : CmpOp) : OpR X (compareOp o) (rB Γ (cmpD o)) := by
  intro pins s σ H x y v u Q I rx ry h
  obtain ⟨ρ, S, dx, dy, r, hx, hy, q⟩ := h
  obtain ⟨d, e, _⟩ := id q
  have ek : decide (x = V.non) = isNon dx := by
    cases dx with
    | non => rw [rT_non.mp hx]; rfl
    | bl _ => rw [rT_bl.mp hx]; rfl
    | int _ => rw [rT_int.mp hx]; rfl
    | str _ => rw [(rT_str.mp hx).1]; rfl
    | tup _ => obtain ⟨a, vs, rfl, _⟩ := rT_tup.mp hx; rfl
    | lst _ => obtain ⟨a, vs, rfl, _⟩ := rT_lst.mp hx; rfl
    | frl _ => obtain ⟨a, vs, o, rfl, _⟩ := rT_frl.mp hx; rfl
    | dic _ _ => obtain ⟨a, vs, rfl, _⟩ := rT_dic.mp hx; rfl
    | wdi _ _ => obtain ⟨a, vs, rfl, _⟩ := rT_wdi.mp hx; rfl
    | ref _ => obtain ⟨a, rfl, _⟩ := rT_ref.mp hx; rfl
    | fn _ => exact (rT_fn.mp hx).elim
  cases o with
  | Eq =>
    obtain ⟨k, e1, e2⟩ := Option.map_eq_some_iff.mp (show (deq dx dy).map (fun b => D.bl b) = some d from e)
    have qq : Q (.bl k) H := q.here r (by rw [← e2] at e; exact e) rel_bl
    by_cases hs : scalD dx dy = true
    · obtain ⟨h1, h2⟩ := scal_V hs hx hy
      unfold deq at e1
      rw [if_pos hs] at e1
      exact op_eq pins s σ H x y v u Q I rx ry ⟨h1, by rw [h2, Option.some.inj e1]; exact qq⟩
    · obtain ⟨p, p', ep, ep', s1, s2, ek⟩ := deq_ok hs e1
      exact op_eqD (by omega) pins s σ H x y v u Q I rx ry ⟨p, p', by rw [← hK]; exact relT_py hx ep, by rw [← hK]; exact relT_py hy ep', s1, s2, by rw [ek]; exact qq⟩
  | NotEq =>
    obtain ⟨k, e1, e2⟩ := Option.map_eq_some_iff.mp (show (deq dx dy).map (fun b => D.bl (!b)) = some d from e)
    have qq : Q (.bl (!k)) H := q.here r (by rw [← e2] at e; exact e) rel_bl
    by_cases hs : scalD dx dy = true
    · obtain ⟨h1, h2⟩ := scal_V hs hx hy
      unfold deq at e1
      rw [if_pos hs] at e1
      exact op_ne pins s σ H x y v u Q I rx ry ⟨h1, by rw [h2, Option.some.inj e1]; exact qq⟩
    · obtain ⟨p, p', ep, ep', s1, s2, ek⟩ := deq_ok hs e1
      exact op_neD (by omega) pins s σ H x y v u Q I rx ry ⟨p, p', by rw [← hK]; exact relT_py hx ep, by rw [← hK]; exact relT_py hy ep', s1, s2, by rw [ek]; exact qq⟩
  | Lt =>
    unfold cmpD at e
    dsimp only at e
    split at e
    · rename_i i j
      cases rT_int.mp hx
      cases rT_int.mp hy
      exact op_lt pins s σ H _ _ v u Q I rx ry ⟨i, j, rfl, rfl, q.here r rfl rel_bl⟩
    · rename_i i j
      obtain ⟨rfl, _⟩ := rT_str.mp hx
      obtain ⟨rfl, _⟩ := rT_str.mp hy
      exact op_lt_str pins s σ H _ _ v u Q I rx ry ⟨_, _, rfl, rfl, q.here r rfl rel_bl⟩
    · cases e
  | LtE =>
    unfold cmpD at e
    dsimp only at e
    split at e
    · rename_i i j
      cases rT_int.mp hx
      cases rT_int.mp hy
      exact op_le pins s σ H _ _ v u Q I rx ry ⟨i, j, rfl, rfl, q.here r rfl rel_bl⟩
    · rename_i i j
      obtain ⟨rfl, _⟩ := rT_str.mp hx
      obtain ⟨rfl, _⟩ := rT_str.mp hy
      exact op_le_str pins s σ H _ _ v u Q I rx ry ⟨_, _, rfl, rfl, q.here r rfl rel_bl⟩
    · cases e
  | Gt =>
    unfold cmpD at e
    dsimp only at e
    split at e
    · rename_i i j
      cases rT_int.mp hx
      cases rT_int.mp hy
      exact op_gt pins s σ H _ _ v u Q I rx ry ⟨i, j, rfl, rfl, q.here r rfl rel_bl⟩
    · cases e
  | GtE =>
    unfold cmpD at e
    dsimp only at e
    split at e
    · rename_i i j
      cases rT_int.mp hx
      cases rT_int.mp hy
      exact op_ge pins s σ H _ _ v u Q I rx ry ⟨i, j, rfl, rfl, q.here r rfl rel_bl⟩
    · cases e
  | Is =>
    unfold cmpD at e
    dsimp only at e
    split at e
    · cases rT_non.mp hy
      exact op_isN pins s σ H _ _ v u Q I rx ry ⟨rfl, by rw [ek]; exact q.here r rfl rel_bl⟩
    · cases e
  | IsNot =>
    unfold cmpD at e
    dsimp only at e
    split at e
    · cases rT_non.mp hy
      exact op_notN pins s σ H _ _ v u Q I rx ry ⟨rfl, by rw [ek]; exact q.here r rfl rel_bl⟩
    · cases e
  | In => exact in_ok hK hw hu false pins s σ H x y v u Q I rx ry ⟨ρ, S, dx, dy, r, hx, hy, q⟩
  | NotIn => exact in_ok hK hw hu true pins s σ H x y v u Q I rx ry ⟨ρ, S, dx, dy, r, hx, hy, q⟩
end
end Ev
set_option Elab.async false
set_option linter.all false
set_option maxRecDepth 100000
set_option maxHeartbeats 4000000
/-! E4: subscripts, slices, truth, built-in functions and methods by values. -/
namespace Ev
open PySem PySem.Spec PyProof.Rows L2 TL
section
variable {X : Cx} {Γ : Gd} {ρ : Loc} {S : Sto} {H : Hp} {Q : VK} {d : D} {v : V}
theorem ixD_eq (n : Nat) (i : Int) : ixD n i = ixN n i := rfl
theorem RelL.atI {ds : List D} {vs : List V} {i : Int} {d : D} (h : RelL Γ ρ H ds vs) (e : ((ixD ds.length i).bind fun j => ds[j]?) = some d) : ∃ v, L2.atI vs i = some v ∧ Rel Γ ρ H d v := by
  obtain ⟨j, e1, e2⟩ := Option.bind_eq_some_iff.mp e
  obtain ⟨v, e3, q⟩ := h.get e2
  refine ⟨v, ?_, q⟩
  unfold L2.atI
  rw [← h.length, ← ixD_eq, e1]
  exact e3
/-- a subscript, an index that is no slice -/
def rX (Γ : Gd) (f : D → D → Option D) : R2 := fun x y H Q => ∃ ρ S dx dy, Rm Γ ρ S H ∧ RelT Γ ρ H dx x ∧ Rel Γ ρ H dy y ∧ okV Γ ρ S H (f dx dy) Q
theorem sub_ok (hK : Γ.K = X.K) (hw : Γ.w = X.w) (hu : X.A.units + 66 < cLine) : IxR X (rX Γ subD) := by
  intro value slice pins s σ H x y v u Q I rx ry h hs
  obtain ⟨ρ, S, dx, dy, r, hx, hy, q⟩ := h
  obtain ⟨d, e, _⟩ := id q
  have e0 := e
  unfold subD at e
  split at e
  · rename_i xs k
    obtain ⟨a, vs, rfl, h1, h2⟩ := rT_tup.mp hx
    have hy' := rel_rT hy
    cases rT_int.mp hy'
    obtain ⟨z, ez, qz⟩ := h2.atI e
    rw [hK] at h1
    exact ix_tup value slice pins s σ H _ _ v u Q I rx ry ⟨a, vs, k, z, rfl, rfl, h1, ez, q.here r e0 qz⟩ hs
  · rename_i xs k
    obtain ⟨a, vs, rfl, h1, h2⟩ := rT_lst.mp hx
    have hy' := rel_rT hy
    cases rT_int.mp hy'
    obtain ⟨z, ez, qz⟩ := h2.atI e
    exact ix_list value slice pins s σ H _ _ v u Q I rx ry ⟨a, vs, k, z, rfl, rfl, SqL.of h1, ez, q.here r e0 qz⟩ hs
  · rename_i xs k
    obtain ⟨a, vs, o, rfl, h1, h2⟩ := rT_frl.mp hx
    have hy' := rel_rT hy
    cases rT_int.mp hy'
    obtain ⟨z, ez, qz⟩ := h2.atI e
    exact ix_list value slice pins s σ H _ _ v u Q I rx ry ⟨a, vs, k, z, rfl, rfl, .inl (.inr ⟨o, h1⟩), ez, q.here r e0 qz⟩ hs
  · rename_i z k
    obtain ⟨rfl, hl⟩ := rT_str.mp hx
    have hy' := rel_rT hy
    cases rT_int.mp hy'
    obtain ⟨j, e1, e2⟩ := Option.bind_eq_some_iff.mp e
    obtain ⟨c, e3, e4⟩ := Option.map_eq_some_iff.mp e2
    subst e4
    refine ix_str value slice pins s σ H _ _ v u Q I rx ry ⟨_, k, c, rfl, rfl, hl, ?_, q.here r e0 (rel_str (x := [c]) (by rw [sizeLine_eq]; show 1 ≤ 16777216; omega))⟩ hs
    unfold L2.atI
    rw [← ixD_eq]
    show (ixD z.length k).bind _ = _
    rw [e1]
    exact e3
  · rename_i ks ds
    obtain ⟨a, kvs, rfl, ⟨h1, _⟩, h2, h3⟩ := rT_dic.mp hx
    obtain ⟨o, e1, e2⟩ := Option.join_eq_some_iff.mp e |> fun z => (⟨_, z, rfl⟩ : ∃ o, lookD dy ks ds = some o ∧ o = some d)
    subst e2
    obtain ⟨z, rfl, h4⟩ := look_get (rel_rT hy) h2 h3 e1
    cases rx
    have g := DGet.k (k := z) h1
    cases hv : valV kvs z with
    | none =>
      rw [hv] at h4
      exact h4.elim
    | some w0 =>
      rw [hv] at h4 g
      refine tail_any (dict_typeIs I g) slot_dict_getitem.lookup (d_getItem (by omega) I g ry fun w' s' I' rw' => ⟨w0, H, I', rw', ?_⟩) hs
      exact q.here r e0 h4
  · rename_i ks ds
    obtain ⟨a, kvs, rfl, ⟨⟨es, n, kd⟩, wg⟩, h2, h3⟩ := rT_wdi.mp hx
    obtain ⟨o, e1, e2⟩ := Option.join_eq_some_iff.mp e |> fun z => (⟨_, z, rfl⟩ : ∃ o, lookW dy ks ds = some o ∧ o = some d)
    subst e2
    unfold lookW at e1
    split at e1
    · rename_i a'
      obtain ⟨z, ez, h4⟩ := look_get (rel_rT hy) h2 h3 e1
      obtain ⟨rfl, _⟩ := rT_str.mp (rel_rT hy)
      have ez2 : z = Sum.inr ⟨a'.toArray⟩ := by
        cases z with
        | inl i => cases ez
        | inr w => cases ez; rfl
      subst ez2
      obtain ⟨r', e5, e6⟩ := wg ⟨a'.toArray⟩
      cases hv : valV kvs (Sum.inr ⟨a'.toArray⟩) with
      | none =>
        rw [hv] at h4
        exact h4.elim
      | some w0 =>
        rw [hv] at h4 e6
        cases r' with
        | none => exact e6.elim
        | some u0 =>
          rw [hK] at e5
          rw [hK, hw] at kd
          exact ix_kdict value slice pins s σ H _ _ v u Q I rx ry ⟨a, _, w0, rfl, rfl, ⟨es, n, u0, kd.at_, kd.lit, e5, e6⟩, q.here r e0 h4⟩ hs
    · cases e1
  · cases e
theorem cut_rel {ds : List D} {vs : List V} (h : RelL Γ ρ H ds vs) (lo hi : Option Int) : RelL Γ ρ H (cutD ds lo hi) (cutV vs lo hi) := by
  unfold cutD cutV
  rw [h.length]
  exact (h.drop _).take _
theorem cutD_len {α : Type} (xs : List α) (lo hi : Option Int) : (cutD xs lo hi).length ≤ xs.length := by
  unfold cutD
  rw [List.length_take, List.length_drop]
  omega
/-- a slice -/
theorem slc_ok (hK : Γ.K = X.K) : SlR X (fun x lo hi H Q => ∃ ρ S dx, Rm Γ ρ S H ∧ RelT Γ ρ H dx x ∧ okV Γ ρ S H (slcP dx lo hi) Q) := by
  intro pins s σ H x v vl vu lo hi sl Q I rx hs pl pu h
  obtain ⟨ρ, S, dx, r, hx, q⟩ := h
  obtain ⟨d, e, _⟩ := id q
  cases dx with
  | tup xs =>
    obtain ⟨a, vs, rfl, h1, h2⟩ := rT_tup.mp hx
    rw [hK] at h1
    refine sl_tupA pins s σ H _ v vl vu lo hi sl Q I rx hs pl pu ⟨a, vs, rfl, h1, fun z => ?_, fun z p hp => q.newTup r rfl (cut_rel h2 lo hi) hp⟩
    refine q.here r rfl ?_
    unfold Rel
    have e2 : cutD xs lo hi = xs := by
      unfold cutD
      rw [h2.length, z.1, z.2, List.drop_zero, Nat.sub_zero, ← h2.length, List.take_length]
    rw [e2]
    exact ⟨a, vs, rfl, by rw [hK]; exact h1, h2⟩
  | lst xs =>
    obtain ⟨a, vs, rfl, h1, h2⟩ := rT_lst.mp hx
    exact sl_list pins s σ H _ v vl vu lo hi sl Q I rx hs pl pu ⟨a, vs, rfl, SqL.of h1, fun p hp => q.newLst r rfl (cut_rel h2 lo hi) hp⟩
  | frl xs =>
    obtain ⟨a, vs, o, rfl, h1, h2⟩ := rT_frl.mp hx
    exact sl_list pins s σ H _ v vl vu lo hi sl Q I rx hs pl pu ⟨a, vs, rfl, .inl (.inr ⟨o, h1⟩), fun p hp => q.newLst r rfl (cut_rel h2 lo hi) hp⟩
  | str z =>
    obtain ⟨rfl, hl⟩ := rT_str.mp hx
    refine sl_str pins s σ H _ v vl vu lo hi sl Q I rx hs pl pu ⟨_, rfl, hl, ?_⟩
    refine q.here r (d := .str (cutD z lo hi)) rfl (rel_str (Nat.le_trans (cutD_len z lo hi) hl))
  | _ => cases e
/-- a value's truth -/
theorem truth_ok (hK : Γ.K = X.K) {x : V} {k : Bool} (hx : RelT Γ ρ H d x) (e : d.truth = some k) : TruV X.K x H k := by
  unfold D.truth at e
  split at e
  · cases e
    cases rT_non.mp hx
    rfl
  · cases e
    cases rT_bl.mp hx
    rfl
  · cases e
    cases rT_int.mp hx
    rfl
  · rename_i z
    cases e
    obtain ⟨rfl, hl⟩ := rT_str.mp hx
    refine ⟨hl, ?_⟩
    cases z with
    | nil => rfl
    | cons c r =>
      show true = _
      symm
      rw [str_length]
      simp
      omega
  · rename_i xs
    cases e
    obtain ⟨a, vs, rfl, h1, h2⟩ := rT_tup.mp hx
    rw [hK] at h1
    refine .inr (.inl ⟨vs, h1, ?_⟩)
    have := h2.length
    cases xs <;> cases vs <;> first | rfl | cases this
  · rename_i xs
    cases e
    obtain ⟨a, vs, rfl, h1, h2⟩ := rT_lst.mp hx
    refine .inl ⟨vs, SqL.of h1, ?_⟩
    have := h2.length
    cases xs <;> cases vs <;> first | rfl | cases this
  · rename_i xs
    cases e
    obtain ⟨a, vs, o, rfl, h1, h2⟩ := rT_frl.mp hx
    refine .inl ⟨vs, .inl (.inr ⟨o, h1⟩), ?_⟩
    have := h2.length
    cases xs <;> cases vs <;> first | rfl | cases this
  · rename_i ks vs
    cases e
    obtain ⟨a, kvs, rfl, ⟨h1, _⟩, h2, h3⟩ := rT_dic.mp hx
    refine .inr (.inr ⟨kvs, h1, ?_⟩)
    have := congrArg List.length h2
    rw [List.length_map, List.length_map] at this
    cases ks <;> cases kvs <;> first | rfl | cases this
  · cases e
/-! ### built-in functions -/
/-- arguments, names looked up -/
def RelTs (Γ : Gd) (ρ : Loc) (H : Hp) : List D → List V → Prop
  | [], vs => vs = []
  | d :: ds, vs => ∃ v r, vs = v :: r ∧ RelT Γ ρ H d v ∧ RelTs Γ ρ H ds r
theorem RelL.looks (r : Rm Γ ρ S H) : ∀ {ds : List D} {vs : List V}, RelL Γ ρ H ds vs → RelTs Γ ρ H (ds.map fun d => d.look S) vs
  | [], _, h => relL_nil.mp h
  | d :: ds, _, h => by
    obtain ⟨v, q, rfl, h1, h2⟩ := relL_cons.mp h
    exact ⟨v, _, rfl, h1.look r, RelL.looks r h2⟩
theorem relTs1 {a : D} {vs : List V} (h : RelTs Γ ρ H [a] vs) : ∃ v, vs = [v] ∧ RelT Γ ρ H a v := by
  obtain ⟨v, r, rfl, h1, rfl⟩ := h
  exact ⟨v, rfl, h1⟩
theorem relTs2 {a b : D} {vs : List V} (h : RelTs Γ ρ H [a, b] vs) : ∃ v u, vs = [v, u] ∧ RelT Γ ρ H a v ∧ RelT Γ ρ H b u := by
  obtain ⟨v, r, rfl, h1, u, r', rfl, h2, rfl⟩ := h
  exact ⟨v, u, rfl, h1, h2⟩
def rC (Γ : Gd) (f : List D → Option D) : List V → Hp → VK → Prop := fun vs H Q => ∃ ρ S ds, Rm Γ ρ S H ∧ RelTs Γ ρ H ds vs ∧ okV Γ ρ S H (f ds) Q
/-- the value that a built-in stands for -/
def Bf.val : Bf → Value
  | .len => .builtin "len" | .abs => .builtin "abs" | .max => .builtin "max" | .min => .builtin "min" | .divmod => .builtin "divmod"
  | .int => .type "int" | .str => .type "str" | .repr => .builtin "repr" | .all => .builtin "all" | .any => .builtin "any" | .sum => .builtin "sum"
  | .tuple => .type "tuple" | .list => .type "list"
theorem bls_rel : ∀ {xs : List D} {bs : List Bool} {vs : List V}, blsOf xs = some bs → RelL Γ ρ H xs vs → vs = bs.map V.bl
  | [], bs, vs, e, h => by
    cases e
    rw [relL_nil.mp h]
    rfl
  | x :: xs, bs, vs, e, h => by
    obtain ⟨v, r, rfl, h1, h2⟩ := relL_cons.mp h
    cases x with
    | bl b =>
      obtain ⟨bs', e1, rfl⟩ := Option.map_eq_some_iff.mp (show (blsOf xs).map (b :: ·) = some bs from e)
      rw [bls_rel e1 h2, rT_bl.mp (rel_rT h1)]
      rfl
    | _ => cases e
theorem ints_rel : ∀ {xs : List D} {bs : List Int} {vs : List V}, intsOf xs = some bs → RelL Γ ρ H xs vs → vs = bs.map V.int
  | [], bs, vs, e, h => by
    cases e
    rw [relL_nil.mp h]
    rfl
  | x :: xs, bs, vs, e, h => by
    obtain ⟨v, r, rfl, h1, h2⟩ := relL_cons.mp h
    cases x with
    | int b =>
      obtain ⟨bs', e1, rfl⟩ := Option.map_eq_some_iff.mp (show (intsOf xs).map (b :: ·) = some bs from e)
      rw [ints_rel e1 h2, rT_int.mp (rel_rT h1)]
      rfl
    | _ => cases e
theorem strs_rel : ∀ {xs : List D} {bs : List (List Nat)} {vs : List V}, strsOf xs = some bs → RelL Γ ρ H xs vs → vs = (bs.map fun b => (⟨b.toArray⟩ : Str)).map V.str
  | [], bs, vs, e, h => by
    cases e
    rw [relL_nil.mp h]
    rfl
  | x :: xs, bs, vs, e, h => by
    obtain ⟨v, r, rfl, h1, h2⟩ := relL_cons.mp h
    cases x with
    | str b =>
      obtain ⟨bs', e1, rfl⟩ := Option.map_eq_some_iff.mp (show (strsOf xs).map (b :: ·) = some bs from e)
      rw [strs_rel e1 h2, (rT_str.mp (rel_rT h1)).1]
      rfl
    | _ => cases e
theorem digits_ok {x : List Nat} {n : Nat} (e : digitsD x = some n) (hl : x.length ≤ 4300) : intText? ⟨x.toArray⟩ = some (n : Int) := by
  unfold digitsD at e
  split at e
  · cases e
  · rename_i c
    cases e
    rw [Bool.not_eq_true, Bool.or_eq_false_iff] at c
    obtain ⟨c1, c2⟩ := c
    have h2 : x.all (fun c => decide (48 ≤ c) && decide (c ≤ 57)) = true := by simpa using c2
    have h3 := List.all_eq_true.mp h2
    exact intText_digits (x := ⟨x.toArray⟩) (fun c hc => by
      have := h3 c hc
      simpa using this) (by
      intro z
      have z' : x = [] := z
      rw [z'] at c1
      cases c1) hl
theorem digitsI_ok {x : List Nat} {n : Int} (e : digitsI x = some n) (hl : x.length ≤ 4300) : intText? ⟨x.toArray⟩ = some n := by
  unfold digitsI at e
  split at e
  · rename_i m em
    cases e
    exact digits_ok em hl
  · split at e
    · rename_i c r _
      split at e
      · rename_i hc
        have hc := of_decide_eq_true hc
        subst hc
        obtain ⟨m, em, rfl⟩ := Option.map_eq_some_iff.mp e
        unfold digitsD at em
        split at em
        · cases em
        · rename_i q
          cases em
          rw [Bool.not_eq_true, Bool.or_eq_false_iff] at q
          obtain ⟨c1, c2⟩ := q
          have h2 : r.all (fun c => decide (48 ≤ c) && decide (c ≤ 57)) = true := by simpa using c2
          have h3 := List.all_eq_true.mp h2
          exact intText_neg (x := ⟨(45 :: r).toArray⟩) (cs := r) rfl (fun c hc => by
            have := h3 c hc
            simpa using this) (by
            intro z
            rw [z] at c1
            cases c1) hl
      · cases e
    · cases e
theorem showInt_eq (i : Int) : (Str.ofString (toString i)) = ⟨(showInt i).toArray⟩ := by
  apply ext_tl
  cases i with
  | ofNat n => exact tl_num n
  | negSucc n =>
    have e : (toString (Int.negSucc n) : String) = "-" ++ toString ((n + 1 : Nat) : Int) := rfl
    rw [e, tl_ofString, String.toList_append, List.map_append]
    have e2 := tl_num (n + 1)
    rw [tl_ofString] at e2
    rw [e2]
    rfl

theorem rels_len : ∀ {ds : List D} {vs : List V}, RelTs Γ ρ H ds vs → ds.length = vs.length
  | [], _, h => by
    have h' : _ = [] := h
    rw [h']
    rfl
  | d :: ds, _, h => by
    obtain ⟨v, r, rfl, _, h2⟩ := h
    rw [List.length_cons, List.length_cons, rels_len h2]
theorem strs_to : ∀ (ys : List (List Nat)), (∀ y ∈ ys, y.length ≤ sizeLine) → RelL Γ ρ H (ys.map D.str) ((ys.map fun y => (⟨y.toArray⟩ : Str)).map V.str)
  | [], _ => relL_nil.mpr rfl
  | y :: ys, h => relL_cons.mpr ⟨_, _, rfl, rel_str (h y (List.mem_cons_self ..)), strs_to ys fun z hz => h z (List.mem_cons_of_mem _ hz)⟩
theorem vals_signs (x : Str) {acc : Array Value} (h : ItemsOf (SignAt x) acc x.cps.size) : Vals ((x.cps.toList.map fun c => (⟨#[c]⟩ : Str)).map V.str) acc.toList := by
  have key : ∀ (l : List Nat) (ws : List Value), ws.length = l.length → (∀ (j : Nat) (v : Value), ws[j]? = some v → ∃ c u, l[j]? = some c ∧ v = .str ⟨#[c]⟩ u) → Vals ((l.map fun c => (⟨#[c]⟩ : Str)).map V.str) ws := by
    intro l
    induction l with
    | nil =>
      intro ws e _
      cases ws with
      | nil => exact .nil
      | cons w ws => cases e
    | cons c l ih =>
      intro ws e hw
      cases ws with
      | nil => cases e
      | cons w ws =>
        obtain ⟨c', u, e1, e2⟩ := hw 0 w rfl
        cases e1
        refine .cons ⟨u, e2⟩ (ih ws (Nat.succ.inj e) fun j v hv => ?_)
        exact hw (j + 1) v hv
  refine key x.cps.toList acc.toList (by rw [Array.length_toList, Array.length_toList]; exact h.1) fun j v hv => ?_
  obtain ⟨c, u, hc, e⟩ := h.2 j v (by simpa using hv)
  exact ⟨c, u, by simpa using hc, e⟩
theorem call_list_text (hh : X.A.handled = none) : CallR X (.type "list") (fun xs H Q => ∃ z, xs = [.str z] ∧ z.length ≤ sizeLine ∧ ∀ p, H p = none → Q (.ref p) (upd H p (.lst ((z.cps.toList.map fun c => (⟨#[c]⟩ : Str)).map V.str)))) := by
  intro pins s σ H xs us Q I r h
  obtain ⟨z, rfl, hl, q⟩ := h
  obtain ⟨u, rfl, t, rfl⟩ := vals1 r
  refine call_list_str hh z t (hn := hl) fun h' tk acc' c' hk hS' hacc => ?_
  have hp := I.hok.fresh (Nat.le_refl _)
  refine ⟨.ref s.heap.objs.size, upd H s.heap.objs.size (.lst ((z.cps.toList.map fun c => (⟨#[c]⟩ : Str)).map V.str)), I.laid hk (Nat.le_refl _) (show ObjOk X.prog X.w _ _ _ (.lst _) from ⟨?_, acc'.toList, c', vals_signs z hacc, ?_⟩), rfl, q _ hp⟩
  · rw [List.length_map, List.length_map, Array.length_toList]
    exact hl
  · rw [hS']
theorem call_repr_D (hg : X.A.guards = some []) (hu : X.A.units + 66 < cLine) : CallR X (.builtin "repr") (fun xs H Q => ∃ y d, xs = [y] ∧ Dp X.K H y d ∧ (y = .non ∨ ∃ a, y = .ref a) ∧ SeqAt.shaped d = true ∧ d.showable = true ∧ d.hasDict = false ∧ d.shown.length ≤ sizeLine ∧ Q (.str d.shown) H) := by
  intro pins s σ H xs us Q I r h
  obtain ⟨y, d, rfl, hd, hy, h1, h2, h3, h4, q⟩ := h
  obtain ⟨u, rfl, ru⟩ := vals1 r
  obtain ⟨as, rd⟩ := Dp.reads I d y u hd ru
  rcases hy with rfl | ⟨a, rfl⟩
  · cases hd
    cases ru
    exact P.repr_of_none ⟨.str _, H, I.tok _, ⟨_, rfl⟩, q⟩
  · cases ru
    have := SeqAt.depth_of_shaped h1
    exact repr_of_reads' rd h2 (fun e => by rw [h3] at e; cases e) hg (by omega) (fun _ _ e => e) (fun h' u tk hk => ⟨.str _, H, I.kept hk, ⟨_, rfl⟩, q⟩) h4
theorem CallR.mono {f : Value} {r r' : List V → Hp → VK → Prop} (h : CallR X f r) (k : ∀ xs H Q, r' xs H Q → r xs H Q) : CallR X f r' := fun pins s σ H xs us Q I rs q => h pins s σ H xs us Q I rs (k xs H Q q)
/-- what a context must give for the built-ins -/
structure Calm (X : Cx) (Γ : Gd) : Prop where
  K : Γ.K = X.K
  w : Γ.w = X.w
  hu : X.A.units + 66 < cLine
  hh : X.calm = true
  hd : X.A.handled = none
theorem bif_ok (C : Calm X Γ) (b : Bf) (hg : b = .repr → X.A.guards = some []) : CallR X b.val (rC Γ (bifD b)) := by
  obtain ⟨hK, hw, hu, hc, hd⟩ := C
  cases b
  case len =>
    intro pins s σ H xs us Q I rs h
    obtain ⟨ρ, S, ds, r, hx, q⟩ := h
    obtain ⟨d, e, _⟩ := id q
    have e0 := e
    unfold bifD at e
    split at e <;> first | contradiction | skip
    · rename_i x _
      obtain ⟨v, rfl, h1⟩ := relTs1 hx
      obtain ⟨rfl, hl⟩ := rT_str.mp h1
      exact call_len_str pins s σ H _ us Q I rs ⟨_, rfl, hl, q.here r e0 (by cases e; exact rel_int)⟩
    · rename_i x _
      obtain ⟨v, rfl, h1⟩ := relTs1 hx
      obtain ⟨a, vs, rfl, h2, h3⟩ := rT_tup.mp h1
      rw [hK] at h2
      exact call_len_seq pins s σ H _ us Q I rs ⟨a, vs, rfl, .inr h2, q.here r e0 (by cases e; rw [h3.length]; exact rel_int)⟩
    · rename_i x _
      obtain ⟨v, rfl, h1⟩ := relTs1 hx
      obtain ⟨a, vs, rfl, h2, h3⟩ := rT_lst.mp h1
      exact call_len_seq pins s σ H _ us Q I rs ⟨a, vs, rfl, .inl (SqL.of h2), q.here r e0 (by cases e; rw [h3.length]; exact rel_int)⟩
    · rename_i x _
      obtain ⟨v, rfl, h1⟩ := relTs1 hx
      obtain ⟨a, vs, o, rfl, h2, h3⟩ := rT_frl.mp h1
      exact call_len_seq pins s σ H _ us Q I rs ⟨a, vs, rfl, .inl (.inl (.inr ⟨o, h2⟩)), q.here r e0 (by cases e; rw [h3.length]; exact rel_int)⟩
    · rename_i x _
      obtain ⟨v, rfl, h1⟩ := relTs1 hx
      obtain ⟨a, kvs, rfl, ⟨h2, _⟩, h3, h4⟩ := rT_dic.mp h1
      refine call_lenD pins s σ H _ us Q I rs ⟨a, kvs, rfl, h2, q.here r e0 (by
        have := congrArg List.length h3
        rw [List.length_map, List.length_map] at this
        cases e
        rw [this]
        exact rel_int)⟩
  case abs =>
    intro pins s σ H xs us Q I rs h
    obtain ⟨ρ, S, ds, r, hx, q⟩ := h
    obtain ⟨d, e, _⟩ := id q
    have e0 := e
    unfold bifD at e
    split at e <;> first | contradiction | skip
    rename_i i _
    obtain ⟨v, rfl, h1⟩ := relTs1 hx
    cases rT_int.mp h1
    exact call_abs pins s σ H _ us Q I rs ⟨i, rfl, q.here r e0 (by cases e; exact rel_int)⟩
  case max =>
    intro pins s σ H xs us Q I rs h
    obtain ⟨ρ, S, ds, r, hx, q⟩ := h
    obtain ⟨d, e, _⟩ := id q
    have e0 := e
    unfold bifD at e
    split at e <;> first | contradiction | skip
    rename_i i j _
    obtain ⟨v, u, rfl, h1, h2⟩ := relTs2 hx
    cases rT_int.mp h1
    cases rT_int.mp h2
    exact call_max2 hc pins s σ H _ us Q I rs ⟨i, j, rfl, q.here r e0 (by cases e; exact rel_int)⟩
  case min =>
    intro pins s σ H xs us Q I rs h
    obtain ⟨ρ, S, ds, r, hx, q⟩ := h
    obtain ⟨d, e, _⟩ := id q
    have e0 := e
    unfold bifD at e
    split at e <;> first | contradiction | skip
    rename_i i j _
    obtain ⟨v, u, rfl, h1, h2⟩ := relTs2 hx
    cases rT_int.mp h1
    cases rT_int.mp h2
    exact call_min2 hc pins s σ H _ us Q I rs ⟨i, j, rfl, q.here r e0 (by cases e; exact rel_int)⟩
  case divmod =>
    intro pins s σ H xs us Q I rs h
    obtain ⟨ρ, S, ds, r, hx, q⟩ := h
    obtain ⟨d, e, _⟩ := id q
    have e0 := e
    unfold bifD at e
    split at e <;> first | contradiction | skip
    rename_i i j _
    obtain ⟨v, u, rfl, h1, h2⟩ := relTs2 hx
    cases rT_int.mp h1
    cases rT_int.mp h2
    obtain ⟨c, e1⟩ := some_of_ite e
    rw [Bool.and_eq_true, decide_eq_true_eq, decide_eq_true_eq] at c
    subst e1
    exact call_divmod pins s σ H _ us Q I rs ⟨i, j, rfl, c, fun p hp => q.newTup r e0 (relL_cons.mpr ⟨_, _, rfl, rel_int, RelL.one rel_int⟩) hp⟩
  case int =>
    intro pins s σ H xs us Q I rs h
    obtain ⟨ρ, S, ds, r, hx, q⟩ := h
    obtain ⟨d, e, _⟩ := id q
    have e0 := e
    unfold bifD at e
    split at e <;> first | contradiction | skip
    · rename_i i _
      obtain ⟨v, rfl, h1⟩ := relTs1 hx
      cases rT_int.mp h1
      exact call_int1 pins s σ H _ us Q I rs (.inl ⟨i, rfl, q.here r e0 (by cases e; exact rel_int)⟩)
    · rename_i x _
      obtain ⟨v, rfl, h1⟩ := relTs1 hx
      obtain ⟨rfl, hl⟩ := rT_str.mp h1
      split at e
      · rename_i c
        rw [decide_eq_true_eq] at c
        obtain ⟨n, e1, rfl⟩ := Option.map_eq_some_iff.mp e
        exact call_int_str pins s σ H _ us Q I rs ⟨_, _, rfl, digitsI_ok e1 (by omega), c, q.here r e0 rel_int⟩
      · cases e
  case str =>
    intro pins s σ H xs us Q I rs h
    obtain ⟨ρ, S, ds, r, hx, q⟩ := h
    obtain ⟨d, e, _⟩ := id q
    have e0 := e
    unfold bifD at e
    split at e <;> first | contradiction | skip
    · rename_i i _
      obtain ⟨v, rfl, h1⟩ := relTs1 hx
      cases rT_int.mp h1
      obtain ⟨c, e1⟩ := some_of_ite e
      rw [decide_eq_true_eq] at c
      subst e1
      refine call_str_int pins s σ H _ us Q I rs ⟨i, rfl, c, ?_⟩
      have g := showInt_eq i
      have g2 : ((toString i : String) : Str) = ⟨(showInt i).toArray⟩ := g
      rw [g2]
      refine q.here r e0 (rel_str ?_)
      have f := int_text_fits c
      rw [g] at f
      exact f
    · rename_i x _
      obtain ⟨v, rfl, h1⟩ := relTs1 hx
      obtain ⟨rfl, hl⟩ := rT_str.mp h1
      exact SkE.call_str_str pins s σ H _ us Q I rs ⟨_, rfl, q.here r e0 (by cases e; exact rel_str hl)⟩
  case repr =>
    intro pins s σ H xs us Q I rs h
    obtain ⟨ρ, S, ds, r, hx, q⟩ := h
    obtain ⟨d, e, _⟩ := id q
    have e0 := e
    unfold bifD at e
    split at e <;> first | contradiction | skip
    rename_i a _
    obtain ⟨v, rfl, h1⟩ := relTs1 hx
    unfold reprD at e
    split at e
    · rename_i p ep
      obtain ⟨c, e1⟩ := some_of_ite e
      simp only [Bool.and_eq_true, decide_eq_true_eq, Bool.not_eq_true'] at c
      obtain ⟨⟨⟨⟨c0, c1⟩, c2⟩, c3⟩, c4⟩ := c
      have hp := relT_py h1 ep
      rw [hK] at hp
      have hl : p.shown.length ≤ sizeLine := Nat.le_trans c4 line_le
      refine call_repr_D (hg rfl) hu pins s σ H _ us Q I rs ⟨v, p, rfl, hp, ?_, c1, c2, c3, hl, ?_⟩
      · cases a with
        | non => exact .inl (rT_non.mp h1)
        | tup xs =>
          obtain ⟨a, _, h2, _⟩ := rT_tup.mp h1
          exact .inr ⟨a, h2⟩
        | lst xs =>
          obtain ⟨a, _, h2, _⟩ := rT_lst.mp h1
          exact .inr ⟨a, h2⟩
        | frl xs =>
          obtain ⟨a, _, _, h2, _⟩ := rT_frl.mp h1
          exact .inr ⟨a, h2⟩
        | _ => cases c0
      · refine q.here r e0 ?_
        rw [← e1]
        have := rel_str (Γ := Γ) (ρ := ρ) (H := H) (x := p.shown.cps.toList) (by rw [Array.length_toList]; exact hl)
        exact this
    · cases e
  case all =>
    intro pins s σ H xs us Q I rs h
    obtain ⟨ρ, S, ds, r, hx, q⟩ := h
    obtain ⟨d, e, _⟩ := id q
    have e0 := e
    unfold bifD at e
    split at e <;> first | contradiction | skip
    rename_i x
    obtain ⟨v, rfl, h1⟩ := relTs1 hx
    obtain ⟨a, vs, rfl, h2, h3⟩ := rT_lst.mp h1
    obtain ⟨bs, e1, e2⟩ := Option.map_eq_some_iff.mp e
    have e3 := bls_rel e1 h3
    subst e3
    exact cr_all hc pins s σ H _ us Q I rs ⟨a, bs, rfl, SqL.of h2, q.here r e0 (by rw [← e2]; exact rel_bl)⟩
  case any =>
    intro pins s σ H xs us Q I rs h
    obtain ⟨ρ, S, ds, r, hx, q⟩ := h
    obtain ⟨d, e, _⟩ := id q
    have e0 := e
    unfold bifD at e
    split at e <;> first | contradiction | skip
    rename_i x
    obtain ⟨v, rfl, h1⟩ := relTs1 hx
    obtain ⟨a, vs, rfl, h2, h3⟩ := rT_lst.mp h1
    obtain ⟨bs, e1, e2⟩ := Option.map_eq_some_iff.mp e
    have e3 := bls_rel e1 h3
    subst e3
    exact cr_any hc pins s σ H _ us Q I rs ⟨a, bs, rfl, SqL.of h2, q.here r e0 (by rw [← e2]; exact rel_bl)⟩
  case sum =>
    intro pins s σ H xs us Q I rs h
    obtain ⟨ρ, S, ds, r, hx, q⟩ := h
    obtain ⟨d, e, _⟩ := id q
    have e0 := e
    unfold bifD at e
    split at e <;> first | contradiction | skip
    · obtain ⟨v, rfl, h1⟩ := relTs1 hx
      obtain ⟨a, vs, rfl, h2, h3⟩ := rT_lst.mp h1
      obtain ⟨bs, e1, e2⟩ := Option.map_eq_some_iff.mp e
      have e3 := ints_rel e1 h3
      subst e3
      exact cr_sum hc pins s σ H _ us Q I rs ⟨a, bs, rfl, SqL.of h2, q.here r e0 (by rw [← e2]; exact rel_int)⟩
    · obtain ⟨v, rfl, h1⟩ := relTs1 hx
      obtain ⟨a, vs, o, rfl, h2, h3⟩ := rT_frl.mp h1
      obtain ⟨bs, e1, e2⟩ := Option.map_eq_some_iff.mp e
      have e3 := ints_rel e1 h3
      subst e3
      exact cr_sum hc pins s σ H _ us Q I rs ⟨a, bs, rfl, .inl (.inr ⟨o, h2⟩), q.here r e0 (by rw [← e2]; exact rel_int)⟩
  case tuple =>
    intro pins s σ H xs us Q I rs h
    obtain ⟨ρ, S, ds, r, hx, q⟩ := h
    obtain ⟨d, e, _⟩ := id q
    have e0 := e
    unfold bifD at e
    split at e <;> first | contradiction | skip
    · cases e
      obtain ⟨v, rfl, h1⟩ := relTs1 hx
      obtain ⟨a, vs, rfl, h2, h3⟩ := rT_lst.mp h1
      exact call_tuple_of pins s σ H _ us Q I rs ⟨a, vs, rfl, .inl ⟨SqL.of h2, fun l hl => q.newTup r e0 h3 hl⟩⟩
    · cases e
      obtain ⟨v, rfl, h1⟩ := relTs1 hx
      obtain ⟨a, vs, rfl, h2, h3⟩ := rT_tup.mp h1
      have h2' := h2
      rw [hK] at h2'
      refine call_tuple_of pins s σ H _ us Q I rs ⟨a, vs, rfl, .inr ⟨h2', q.here r e0 ?_⟩⟩
      unfold Rel
      exact ⟨a, vs, rfl, h2, h3⟩
  case list =>
    intro pins s σ H xs us Q I rs h
    obtain ⟨ρ, S, ds, r, hx, q⟩ := h
    obtain ⟨d, e, _⟩ := id q
    have e0 := e
    unfold bifD at e
    split at e <;> first | contradiction | skip
    · cases e
      obtain ⟨v, rfl, h1⟩ := relTs1 hx
      obtain ⟨a, vs, rfl, h2, h3⟩ := rT_lst.mp h1
      exact call_list_of pins s σ H _ us Q I rs ⟨a, vs, rfl, .inl (SqL.of h2), fun l hl => q.newLst r e0 h3 hl⟩
    · cases e
      obtain ⟨v, rfl, h1⟩ := relTs1 hx
      obtain ⟨a, vs, rfl, h2, h3⟩ := rT_tup.mp h1
      rw [hK] at h2
      exact call_list_of pins s σ H _ us Q I rs ⟨a, vs, rfl, .inr h2, fun l hl => q.newLst r e0 h3 hl⟩
    · rename_i x _
      obtain ⟨v, rfl, h1⟩ := relTs1 hx
      obtain ⟨rfl, hl⟩ := rT_str.mp h1
      obtain ⟨c, e1⟩ := some_of_ite e
      refine call_list_text hd pins s σ H _ us Q I rs ⟨_, rfl, hl, fun p hp => ?_⟩
      have e2 : x.map (fun c => D.str [c]) = (x.map fun c => [c]).map D.str := by rw [List.map_map]; rfl
      have e3 : ((⟨x.toArray⟩ : Str).cps.toList.map fun c => (⟨#[c]⟩ : Str)) = ((x.map fun c => [c]).map fun y => (⟨y.toArray⟩ : Str)) := by rw [List.map_map]; rfl
      rw [e3]
      refine q.newLst r (e0.trans (by rw [← e1, e2])) (strs_to _ fun y hy => ?_) hp
      obtain ⟨c, _, rfl⟩ := List.mem_map.mp hy
      rw [sizeLine_eq]
      show 1 ≤ 16777216
      omega
end
end Ev
set_option Elab.async false
set_option linter.all false
set_option autoImplicit false
set_option maxRecDepth 100000
set_option maxHeartbeats 4000000
/-! E5: readings of the evaluator's answers; expressions, one rule for each form. -/
namespace Ev
open PySem PySem.Spec PyProof.Rows L2 TL
/-- what stays: pinned slots, objects that nobody writes -/
structure Keep where
  sl : List (Nat × V)
  hp : List (Addr × HO)
  vl : List (D × V)
structure EnvR (Γ : Gd) (ρ : Loc) (H : Hp) (kp : Keep) (env : EnvD) (σ : List (Option V)) : Prop where
  len : σ.length = env.length
  get : ∀ (i : Nat) (d : D), env[i]? = some (some d) → ∃ v, σ[i]? = some (some v) ∧ Rel Γ ρ H d v
  sl : ∀ p ∈ kp.sl, σ[p.1]? = some (some p.2)
  hp : ∀ p ∈ kp.hp, H p.1 = some p.2 ∧ Still p.2 ∧ ∀ vs, p.2 ≠ .lst vs
  vl : ∀ p ∈ kp.vl, Rel Γ ρ H p.1 p.2
/-- an error's class, its fields in its dict -/
def XRel (Γ : Gd) (ρ : Loc) (H : Hp) (c : Nat) (fs : List D) (cls : Value) (d : Option Addr) : Prop :=
  cls = .ref (Γ.ca c) ∧ ∃ dd vs, d = some dd ∧ H dd = some (.xd ((Γ.cf c).zip vs)) ∧ (Γ.cf c).length = vs.length ∧ RelL Γ ρ H fs vs
def okG {α : Type} (Γ : Gd) (E : XK) (ρ : Loc) (H : Hp) (r : R α) (K : α → Sto → Loc → Hp → Prop) : Prop := match r with
  | .ok a S => ∀ ρ' H', Ext ρ H ρ' H' → Rm Γ ρ' S H' → K a S ρ' H'
  | .exc c fs S => ∀ ρ' H' cls d, Ext ρ H ρ' H' → Rm Γ ρ' S H' → XRel Γ ρ' H' c fs cls d → E cls d H'
  | .bad => False
/-- the wish behind a value -/
def kV' (Γ : Gd) (Q : VK) : D → Sto → Loc → Hp → Prop := fun d _ ρ H => ∀ v, Rel Γ ρ H d v → Q v H
section
variable {α β : Type} {Γ : Gd} {E : XK} {ρ ρ' : Loc} {S S' : Sto} {H H' : Hp} {kp : Keep} {env : EnvD} {σ : L2.St} {Q : VK}
theorem okG.mono {r : R α} {K K' : α → Sto → Loc → Hp → Prop} (h : okG Γ E ρ H r K) (k : ∀ a S ρ' H', Ext ρ H ρ' H' → Rm Γ ρ' S H' → K a S ρ' H' → K' a S ρ' H') : okG Γ E ρ H r K' := by
  cases r with
  | ok a S => exact fun ρ' H' e m => k a S ρ' H' e m (h ρ' H' e m)
  | exc c fs S => exact h
  | bad => exact h
theorem okG.ext {r : R α} {K : α → Sto → Loc → Hp → Prop} (h : okG Γ E ρ H r K) (e : Ext ρ H ρ' H') : okG Γ E ρ' H' r K := by
  cases r with
  | ok a S => exact fun ρ2 H2 e2 m => h ρ2 H2 (e.trans e2) m
  | exc c fs S => exact fun ρ2 H2 cls d e2 m x => h ρ2 H2 cls d (e.trans e2) m x
  | bad => exact h
theorem okG.bind {r : R α} {f : α → Sto → R β} {K : β → Sto → Loc → Hp → Prop} (h : okG Γ E ρ H (r.bind f) K) :
    okG Γ E ρ H r fun a S ρ' H' => Ext ρ H ρ' H' ∧ Rm Γ ρ' S H' ∧ okG Γ E ρ' H' (f a S) K := by
  cases r with
  | ok a S =>
    intro ρ' H' e m
    have h' : okG Γ E ρ H (f a S) K := h
    exact ⟨e, m, h'.ext e⟩
  | exc c fs S => exact h
  | bad => exact h
theorem okG.here {a : α} {K : α → Sto → Loc → Hp → Prop} (h : okG Γ E ρ H (.ok a S) K) (m : Rm Γ ρ S H) : K a S ρ H := h ρ H (Ext.refl ρ H) m
theorem okG.of {o : Option D} (h : okG Γ E ρ H (R.of o S) (kV' Γ Q)) : okV Γ ρ S H o Q := by
  cases o with
  | none => exact (show False from h).elim
  | some d => exact ⟨d, rfl, fun ρ' H' v e m r => h ρ' H' e m v r⟩
theorem okG.nox {r : R α} {K : α → Sto → Loc → Hp → Prop} {E' : XK} (h : okG Γ E ρ H r.nox K) : okG Γ E' ρ H r K := by
  cases r with
  | ok a S => exact h
  | exc c fs S => exact (show False from h).elim
  | bad => exact h
theorem EnvR.ext0 (h : EnvR Γ ρ H kp env σ) (m : Rm Γ ρ S H) (e : Ext0 ρ H ρ' H') : EnvR Γ ρ' H' kp env σ where
  len := h.len
  get := fun i d z => by
    obtain ⟨v, z1, z2⟩ := h.get i d z
    exact ⟨v, z1, Rel.ext0 m e d v z2⟩
  sl := h.sl
  hp := fun p hp => by
    obtain ⟨z1, z2, z3⟩ := h.hp p hp
    exact ⟨e.frm p.1 p.2 z1 (m.tupNo z1 z3) z2, z2, z3⟩
  vl := fun p hp => Rel.ext0 m e _ _ (h.vl p hp)
theorem EnvR.ext (h : EnvR Γ ρ H kp env σ) (m : Rm Γ ρ S H) (e : Ext ρ H ρ' H') : EnvR Γ ρ' H' kp env σ := h.ext0 m e.toExt0
theorem EnvR.set {i : Nat} {d : D} {v : V} (h : EnvR Γ ρ H kp env σ) (r : Rel Γ ρ H d v) (hi : ∀ p ∈ kp.sl, p.1 ≠ i) : EnvR Γ ρ H kp (env.set i (some d)) (σ.set i (some v)) where
  len := by rw [List.length_set, List.length_set]; exact h.len
  get := fun j d' z => by
    by_cases hj : i = j
    · subst hj
      by_cases hl : i < env.length
      · rw [List.getElem?_set_self hl] at z
        cases z
        exact ⟨v, List.getElem?_set_self (by rw [h.len]; exact hl), r⟩
      · rw [List.getElem?_eq_none (by rw [List.length_set]; omega)] at z
        cases z
    · rw [List.getElem?_set_ne hj] at z
      obtain ⟨w, z1, z2⟩ := h.get j d' z
      exact ⟨w, (List.getElem?_set_ne hj).trans z1, z2⟩
  sl := fun p hp => (List.getElem?_set_ne (Ne.symm (hi p hp))).trans (h.sl p hp)
  hp := h.hp
  vl := h.vl
theorem EnvR.unset {i : Nat} (h : EnvR Γ ρ H kp env σ) (hi : ∀ p ∈ kp.sl, p.1 ≠ i) : EnvR Γ ρ H kp (env.set i none) (σ.set i none) where
  len := by rw [List.length_set, List.length_set]; exact h.len
  get := fun j d' z => by
    by_cases hj : i = j
    · subst hj
      by_cases hl : i < env.length
      · rw [List.getElem?_set_self hl] at z
        cases z
      · rw [List.getElem?_eq_none (by rw [List.length_set]; omega)] at z
        cases z
    · rw [List.getElem?_set_ne hj] at z
      obtain ⟨w, z1, z2⟩ := h.get j d' z
      exact ⟨w, (List.getElem?_set_ne hj).trans z1, z2⟩
  sl := fun p hp => (List.getElem?_set_ne (Ne.symm (hi p hp))).trans (h.sl p hp)
  hp := h.hp
  vl := h.vl
theorem EnvR.wipe (h : EnvR Γ ρ H kp env σ) : ∀ (own : List Nat), (∀ p ∈ kp.sl, p.1 ∉ own) → EnvR Γ ρ H kp (wipeD own env) (L2.wipe σ own)
  | [], _ => h
  | i :: r, hi => (EnvR.wipe h r fun p hp z => hi p hp (List.mem_cons_of_mem _ z)).unset fun p hp z => hi p hp (by rw [z]; exact List.mem_cons_self ..)
end
section
variable (Γ : Gd) (W : WX) (kp : Keep) (P : Pg)
/-- the readings -/
def tE (n : Nat) (x : Ex) : TE := fun σ H Q => ∃ ρ S env, EnvR Γ ρ H kp env σ ∧ Rm Γ ρ S H ∧ okG Γ (WE W σ) ρ H (evE P n x env S) (kV' Γ Q)
def tEs (n : Nat) (xs : List Ex) : TA := fun σ H Q => ∃ ρ S env, EnvR Γ ρ H kp env σ ∧ Rm Γ ρ S H ∧ okG Γ (WE W σ) ρ H (evEs P n xs env S) fun ds _ ρ' H' => ∀ vs, RelL Γ ρ' H' ds vs → Q vs H'
def tT (n : Nat) (x : Ex) : TT := fun σ H Q => ∃ ρ S env, EnvR Γ ρ H kp env σ ∧ Rm Γ ρ S H ∧ okG Γ (WE W σ) ρ H (evT P n x env S) fun k _ _ H' => Q k H'
def tTs (n : Nat) (xs : List Ex) : TT := fun σ H Q => ∃ ρ S env, EnvR Γ ρ H kp env σ ∧ Rm Γ ρ S H ∧ okG Γ (WE W σ) ρ H (evTs P n xs env S) fun k _ _ H' => Q k H'
/-- an iterator that walks what the evaluator walks -/
structure WkR (J : It) (Z : Nat → Src → Loc → Sto → Hp → Prop) : Prop where
  step : ∀ {i src ρ S H d src'}, Z i src ρ S H → Rm Γ ρ S H → src.next i S = some (some (d, src')) → J.go i H ∧ ∀ x H', J.yld i H x H' → Ext ρ H ρ H' ∧ Rm Γ ρ S H' ∧ Rel Γ ρ H' d x ∧ Z (i + 1) src' ρ S H'
  stop : ∀ {i src ρ S H}, Z i src ρ S H → Rm Γ ρ S H → src.next i S = some none → J.stop i H
  ext : ∀ {i src ρ S H ρ' S' H'}, Z i src ρ S H → Rm Γ ρ S H → Ext0 ρ H ρ' H' → Rm Γ ρ' S' H' → Z i src ρ' S' H'
def tI (n : Nat) (x : Ex) : TI := fun σ H Q => ∃ ρ S env, EnvR Γ ρ H kp env σ ∧ Rm Γ ρ S H ∧ okG Γ (WE W σ) ρ H (evI P n x env S) fun src S' ρ' H' => ∀ J Z, WkR Γ J Z → Z 0 src ρ' S' H' → Q J H'
end
section
variable {Γ : Gd} {W : WX} {kp : Keep} {P : Pg} {ρ ρ' : Loc} {S S' : Sto} {H H' : Hp} {env : EnvD} {σ : L2.St} {Q : VK} {n : Nat} {x : Ex} {β : Type}
/-- the step to a part, from the left -/
theorem tE.mk {f : D → Sto → R β} {K : β → Sto → Loc → Hp → Prop} (e : EnvR Γ ρ H kp env σ) (m : Rm Γ ρ S H) (h : okG Γ (WE W σ) ρ H ((evE P n x env S).bind f) K)
    (k : ∀ d S1 ρ1 H1 v, Ext ρ H ρ1 H1 → Rm Γ ρ1 S1 H1 → EnvR Γ ρ1 H1 kp env σ → Rel Γ ρ1 H1 d v → okG Γ (WE W σ) ρ1 H1 (f d S1) K → Q v H1) : tE Γ W kp P n x σ H Q :=
  ⟨ρ, S, env, e, m, h.bind.mono fun d S1 ρ1 H1 x1 m1 ⟨_, _, q⟩ v r => k d S1 ρ1 H1 v x1 m1 (e.ext m x1) r q⟩
theorem tEs.mk {xs : List Ex} {Q : List V → Hp → Prop} {f : List D → Sto → R β} {K : β → Sto → Loc → Hp → Prop} (e : EnvR Γ ρ H kp env σ) (m : Rm Γ ρ S H) (h : okG Γ (WE W σ) ρ H ((evEs P n xs env S).bind f) K)
    (k : ∀ ds S1 ρ1 H1 vs, Ext ρ H ρ1 H1 → Rm Γ ρ1 S1 H1 → EnvR Γ ρ1 H1 kp env σ → RelL Γ ρ1 H1 ds vs → okG Γ (WE W σ) ρ1 H1 (f ds S1) K → Q vs H1) : tEs Γ W kp P n xs σ H Q :=
  ⟨ρ, S, env, e, m, h.bind.mono fun d S1 ρ1 H1 x1 m1 ⟨_, _, q⟩ v r => k d S1 ρ1 H1 v x1 m1 (e.ext m x1) r q⟩
theorem tT.mk {Q : Bool → Hp → Prop} {f : Bool → Sto → R β} {K : β → Sto → Loc → Hp → Prop} (e : EnvR Γ ρ H kp env σ) (m : Rm Γ ρ S H) (h : okG Γ (WE W σ) ρ H ((evT P n x env S).bind f) K)
    (k : ∀ b S1 ρ1 H1, Ext ρ H ρ1 H1 → Rm Γ ρ1 S1 H1 → EnvR Γ ρ1 H1 kp env σ → okG Γ (WE W σ) ρ1 H1 (f b S1) K → Q b H1) : tT Γ W kp P n x σ H Q :=
  ⟨ρ, S, env, e, m, h.bind.mono fun d S1 ρ1 H1 x1 m1 ⟨_, _, q⟩ => k d S1 ρ1 H1 x1 m1 (e.ext m x1) q⟩
end
/-! ### expressions -/
section
variable {X : Cx} {Γ : Gd} {W : WX} {kp : Keep} {P : Pg} {a b c e : PySem.Expr} {x y z : Ex} {pos : Pos}
/-- the expression does what the evaluator says -/
abbrev Hv (X : Cx) (Γ : Gd) (W : WX) (kp : Keep) (P : Pg) (e : PySem.Expr) (x : Ex) : Prop := ∀ n, PE X e (tE Γ W kp P n x)
abbrev HvT (X : Cx) (Γ : Gd) (W : WX) (kp : Keep) (P : Pg) (e : PySem.Expr) (x : Ex) : Prop := ∀ n, PT X e (tT Γ W kp P n x)
abbrev HvA (X : Cx) (Γ : Gd) (W : WX) (kp : Keep) (P : Pg) (es : List PySem.Expr) (xs : List Ex) : Prop := ∀ n, PA X es (tEs Γ W kp P n xs)
/-- at no fuel nothing is told -/
theorem pe_zero (x : Ex) : PE X e (tE Γ W kp P 0 x) := ⟨fun pins s σ H Q I ⟨_, _, _, _, _, h⟩ => by
  unfold evE at h
  exact (show False from h).elim⟩
theorem Hv.by {t : Nat → TE} (h : ∀ n, PE X e (t n)) (k : ∀ n σ H Q, tE Γ W kp P (n + 1) x σ H Q → t n σ H Q) : Hv X Γ W kp P e x
  | 0 => pe_zero x
  | n + 1 => ⟨fun pins s σ H Q I q => (h n).run pins s σ H Q I (k n σ H Q q)⟩
theorem h_var {i : Nat} {nm : Str} (hN : X.N[i]? = some nm) (hv : Vis X.env.scope nm) (hd : (nm == ("__debug__" : Str)) = false) (hcd : (nm == ("__classdict__" : Str)) = false) : Hv X Γ W kp P (.Name nm pos) (.var i) :=
  Hv.by (fun _ => pe_var hN hv hd hcd) fun n σ H Q ⟨ρ, S, env, e, m, h⟩ => by
    unfold evE at h
    simp only at h
    split at h
    · rename_i d z
      obtain ⟨v, z1, z2⟩ := e.get i d z
      exact ⟨v, z1, h.here m v z2⟩
    · exact (show False from h).elim
theorem h_cst {d : D} {v : V} (hp : PE X e (tC v)) (hr : ∀ ρ H, Rel Γ ρ H d v) : Hv X Γ W kp P e (.cst d) :=
  Hv.by (fun _ => hp) fun n σ H Q ⟨ρ, S, env, e, m, h⟩ => by
    unfold evE at h
    exact h.here m v (hr ρ H)
theorem h_bop (hK : Γ.K = X.K) {o : Operator} (ha : Hv X Γ W kp P a x) (hb : Hv X Γ W kp P b y) : Hv X Γ W kp P (.BinOp a o b pos) (.bop o x y) :=
  Hv.by (fun n => pe_op (bop_ok hK o) (ha n) (hb n)) fun n σ H Q ⟨ρ, S, env, e, m, h⟩ => by
    unfold evE at h
    refine tE.mk e m h fun d1 S1 ρ1 H1 v1 x1 m1 e1 r1 h1 => tE.mk e1 m1 h1 fun d2 S2 ρ2 H2 v2 x2 m2 e2 r2 h2 => ?_
    exact ⟨ρ2, S2, _, _, m2, (Rel.ext m1 x2 _ _ r1).look m2, r2.look m2, h2.of⟩
theorem h_neg (ha : Hv X Γ W kp P a x) : Hv X Γ W kp P (.UnaryOp .USub a pos) (.neg x) :=
  Hv.by (fun n => pe_un un_neg (ha n)) fun n σ H Q ⟨ρ, S, env, e, m, h⟩ => by
    unfold evE at h
    refine tE.mk e m h fun d1 S1 ρ1 H1 v1 x1 m1 e1 r1 h1 => ?_
    split at h1
    · rename_i i
      have z := rT_int.mp (rel_rT r1)
      subst z
      exact ⟨i, rfl, h1.here m1 _ rel_int⟩
    · exact (show False from h1).elim
structure Cmp3 (X : Cx) (Γ : Gd) : Prop where
  K : Γ.K = X.K
  w : Γ.w = X.w
  hu : X.A.units + 66 < cLine
theorem h_cmp (C : Cmp3 X Γ) {o : CmpOp} (hm : behindInMarks o b = false) (ha : Hv X Γ W kp P a x) (hb : Hv X Γ W kp P b y) : Hv X Γ W kp P (.Compare a [o] [b] pos) (.cmp o x y) :=
  Hv.by (fun n => pe_cmpR (cmp_ok C.K C.w C.hu o) (ha n) (hb n) hm) fun n σ H Q ⟨ρ, S, env, e, m, h⟩ => by
    unfold evE at h
    refine tE.mk e m h fun d1 S1 ρ1 H1 v1 x1 m1 e1 r1 h1 => tE.mk e1 m1 h1 fun d2 S2 ρ2 H2 v2 x2 m2 e2 r2 h2 => ?_
    exact ⟨ρ2, S2, _, _, m2, (Rel.ext m1 x2 _ _ r1).look m2, r2.look m2, h2.of⟩
theorem h_cmp2 (C : Cmp3 X Γ) {o o' : CmpOp} (hm : lastMarks [o, o'] [b, c] = false) (ha : Hv X Γ W kp P a x) (hb : Hv X Γ W kp P b y) (hc : Hv X Γ W kp P c z) : Hv X Γ W kp P (.Compare a [o, o'] [b, c] pos) (.cmp2 o o' x y z) :=
  Hv.by (fun n => pe_chain (cmp_ok C.K C.w C.hu o) (cmp_ok C.K C.w C.hu o') (ha n) (hb n) (hc n) hm) fun n σ H Q ⟨ρ, S, env, e, m, h⟩ => by
    unfold evE at h
    refine tE.mk e m h fun d1 S1 ρ1 H1 v1 x1 m1 e1 r1 h1 => tE.mk e1 m1 h1 fun d2 S2 ρ2 H2 v2 x2 m2 e2 r2 h2 => ?_
    have r1' := Rel.ext m1 x2 _ _ r1
    split at h2
    · rename_i q
      refine ⟨ρ2, S2, _, _, m2, r1'.look m2, r2.look m2, _, q, fun ρ3 H3 v3 x3 m3 r3 => ⟨true, rT_bl.mp (rel_rT r3), ?_⟩⟩
      rw [if_pos rfl]
      refine tE.mk (e2.ext m2 x3) m3 (h2.ext x3) fun d4 S4 ρ4 H4 v4 x4 m4 e4 r4 h4 => ?_
      exact ⟨ρ4, S4, _, _, m4, (Rel.ext m3 x4 _ _ (Rel.ext m2 x3 _ _ r2)).look m4, r4.look m4, h4.of⟩
    · rename_i q
      refine ⟨ρ2, S2, _, _, m2, r1'.look m2, r2.look m2, _, q, fun ρ3 H3 v3 x3 m3 r3 => ⟨false, rT_bl.mp (rel_rT r3), ?_⟩⟩
      rw [if_neg Bool.false_ne_true]
      exact h2 ρ3 H3 x3 m3 _ rel_bl
    · exact (show False from h2).elim
end
end Ev
set_option Elab.async false
set_option linter.all false
set_option autoImplicit false
set_option maxRecDepth 100000
set_option maxHeartbeats 4000000
/-! E6: methods by values; further expressions. -/
namespace Ev
open PySem PySem.Spec PyProof.Rows L2 TL
section
variable {X : Cx} {Γ : Gd} {ρ : Loc} {S : Sto} {H : Hp} {Q : VK} {d : D} {v : V}
def rM (Γ : Gd) (f : D → List D → Option D) : V → List V → Hp → VK → Prop := fun x vs H Q => ∃ ρ S dx ds, Rm Γ ρ S H ∧ RelT Γ ρ H dx x ∧ RelTs Γ ρ H ds vs ∧ okV Γ ρ S H (f dx ds) Q
theorem sumLen_eq : ∀ ys : List (List Nat), (((ys.map fun y => (⟨y.toArray⟩ : Str)).map (·.length)).sum) = sumLen ys
  | [] => rfl
  | y :: ys => by
    rw [List.map_cons, List.map_cons, List.sum_cons, sumLen_eq ys]
    rfl
theorem joinL_len (sep : List Nat) : ∀ ys : List (List Nat), (joinL sep ys).length ≤ sumLen ys + sep.length * ys.length := by
  intro ys
  induction ys with
  | nil => simp [joinL, sumLen]
  | cons y ys ih =>
    cases ys with
    | nil =>
      simp [joinL, sumLen]
    | cons z zs =>
      have e : joinL sep (y :: z :: zs) = y ++ (sep ++ joinL sep (z :: zs)) := rfl
      rw [e, List.length_append, List.length_append]
      have e2 : sumLen (y :: z :: zs) = y.length + sumLen (z :: zs) := rfl
      rw [e2]
      have e3 : sep.length * (y :: z :: zs).length = sep.length + sep.length * (z :: zs).length := by
        rw [List.length_cons, Nat.mul_succ, Nat.add_comm]
      rw [e3]
      omega
theorem met_join (hK : Γ.K = X.K) : MtR X "str.join" (rM Γ (metD .join)) := by
  intro pins s σ H x vs v us Q I rx rs h
  obtain ⟨ρ, S, dx, ds, r, hx, hs, q⟩ := h
  obtain ⟨d, e, _⟩ := id q
  have e0 := e
  unfold metD at e
  split at e <;> first | contradiction | skip
  rename_i sep xs _
  obtain ⟨rfl, hl⟩ := rT_str.mp hx
  obtain ⟨w, rfl, h1⟩ := relTs1 hs
  obtain ⟨a, ws, rfl, h2, h3⟩ := rT_lst.mp h1
  split at e
  · rename_i ys e1
    obtain ⟨c, e2⟩ := some_of_ite e
    rw [decide_eq_true_eq] at c
    have e3 := strs_rel e1 h3
    subst e3
    refine mt_join pins s σ H _ _ v us Q I rx rs ⟨_, a, ys.map fun b => (⟨b.toArray⟩ : Str), rfl, rfl, .inl (SqL.of h2), ?_, ?_⟩
    · rw [sumLen_eq, List.length_map]
      have : ys.length * (⟨sep.toArray⟩ : Str).length = sep.length * ys.length := by rw [Nat.mul_comm]; rfl
      rw [this]
      unfold LINE at c
      omega
    · have e4 : Txt.join ⟨sep.toArray⟩ (ys.map fun b => (⟨b.toArray⟩ : Str)) = ⟨(joinL sep ys).toArray⟩ := SX.join_S sep ys
      rw [e4]
      refine q.here r e0 ?_
      rw [← e2]
      exact rel_str (Nat.le_trans (joinL_len sep ys) (Nat.le_trans c line_le))
  · cases e
theorem spl_mem (T : List Nat) : ∀ (x : List Nat) (k : Nat) (acc : List Nat), ∀ y ∈ spl T k acc x, y.length ≤ acc.length + x.length
  | [], k, acc, y, h => by
    rw [spl_nil] at h
    rw [List.mem_singleton.mp h]
    exact Nat.le_refl _
  | c :: r, 0, acc, y, h => by
    unfold spl at h
    rw [List.length_cons]
    split at h
    · rcases List.mem_cons.mp h with z | z
      · rw [z]
        omega
      · have := spl_mem T r _ [] y z
        simp at this
        omega
    · have := spl_mem T r 0 (acc ++ [c]) y h
      rw [List.length_append, List.length_singleton] at this
      omega
  | c :: r, k + 1, acc, y, h => by
    unfold spl at h
    have := spl_mem T r k acc y h
    rw [List.length_cons]
    omega
theorem met_split (hK : Γ.K = X.K) : MtR X "str.split" (rM Γ (metD .split)) := by
  intro pins s σ H x vs v us Q I rx rs h
  obtain ⟨ρ, S, dx, ds, r, hx, hs, q⟩ := h
  obtain ⟨d, e, _⟩ := id q
  have e0 := e
  unfold metD at e
  split at e <;> first | contradiction | skip
  rename_i z c _
  obtain ⟨rfl, hl⟩ := rT_str.mp hx
  obtain ⟨w, rfl, h1⟩ := relTs1 hs
  obtain ⟨rfl, _⟩ := rT_str.mp h1
  obtain ⟨cc, e2⟩ := some_of_ite e
  rw [Bool.and_eq_true, decide_eq_true_eq, decide_eq_true_eq] at cc
  have hz : z.length + 2 ≤ sizeLine := by
    rw [sizeLine_eq]
    have := cc.2
    unfold LINE at this
    omega
  refine mt_split pins s σ H _ _ v us Q I rx rs ⟨_, _, rfl, rfl, rfl, hz, fun p hp => ?_⟩
  have e3 : Txt.split ⟨z.toArray⟩ ⟨[c].toArray⟩ = (spl [c] 0 [] z).map SX.S := SX.split_S (by simp) (by simp [cc.1])
  rw [e3]
  refine q.newLst r (e0.trans (by rw [← e2])) ?_ hp
  have := strs_to (Γ := Γ) (ρ := ρ) (H := H) (spl [c] 0 [] z) fun y hy => Nat.le_trans (spl_mem [c] z 0 [] y hy) (by simp; omega)
  exact this
theorem opt_fin {o : Option D} {ov : Option V} (h : OpRel Γ ρ H o ov) {dd : D} {vv : V} (hd : Rel Γ ρ H dd vv) : Rel Γ ρ H (o.getD dd) (ov.getD vv) := by
  cases o with
  | none =>
    cases ov with
    | none => exact hd
    | some w => exact h.elim
  | some d =>
    cases ov with
    | none => exact h.elim
    | some w => exact h
theorem rel_of_notL {d : D} (h : RelT Γ ρ H d v) (k : notL d = true) : Rel Γ ρ H d v := by
  cases d with
  | lst _ => cases k
  | _ => unfold RelT at h; exact h
theorem wd_get {pins : List (Addr × Obj)} {σ : L2.St} {s : Shared} {a : Addr} {es : Array DictEntry} {m : Nat} {t : Str} {r' : Option Value} (kd : KDict X.K X.w a es m) (I : Inv X pins σ H s) (e : PySem.W.nsIn X.K a t = some r') {tk : Tok} {A : Around} {E : Value → Shared → Prop} {Q : Value → Shared → Prop}
    (h : ∀ tk, Q (r'.getD .none) { s with toks := tk }) : wpAny (model X.prog X.w) A (call (.builtin "dict.get") [.ref a, .str t tk]) Q E s := by
  have hm := PySem.W.mapOf_K (prog := X.prog) (w := X.w) I.kIn kd.at_ kd.lit
  refine call_meetsIn PySem.F.slot_dict_get hm.typeIs PySem.F.entry_dict_get (PySem.F.args_dict_get_2 _ _) (meets_dict_get (strKind X.prog X.w) a (PySem.strKind_is X.prog X.w t tk) kd.low) ⟨_, hm, ?_⟩
  rw [PySem.W.find_K kd.at_ e]
  exact h _
theorem wd_get2 {pins : List (Addr × Obj)} {σ : L2.St} {s : Shared} {a : Addr} {es : Array DictEntry} {m : Nat} {t : Str} {r' : Option Value} (kd : KDict X.K X.w a es m) (I : Inv X pins σ H s) (e : PySem.W.nsIn X.K a t = some r') {tk : Tok} {u : Value} {A : Around} {E : Value → Shared → Prop} {Q : Value → Shared → Prop}
    (h : ∀ tk, Q (r'.getD u) { s with toks := tk }) : wpAny (model X.prog X.w) A (call (.builtin "dict.get") [.ref a, .str t tk, u]) Q E s := by
  have hm := PySem.W.mapOf_K (prog := X.prog) (w := X.w) I.kIn kd.at_ kd.lit
  refine call_meetsIn PySem.F.slot_dict_get hm.typeIs PySem.F.entry_dict_get (PySem.F.args_dict_get_3 _ _ _) (meets_dict_get_default (strKind X.prog X.w) a (PySem.strKind_is X.prog X.w t tk) kd.low u) ⟨_, hm, ?_⟩
  rw [PySem.W.find_K kd.at_ e]
  exact h _
theorem met_get (hK : Γ.K = X.K) (hw : Γ.w = X.w) (hu : X.A.units + 66 < cLine) : MtR X "dict.get" (rM Γ (metD .get)) := by
  intro pins s σ H x vs v us Q I rx rs h
  obtain ⟨ρ, S, dx, ds, r, hx, hs, q⟩ := h
  obtain ⟨d, e, _⟩ := id q
  have e0 := e
  unfold metD at e
  split at e <;> first | contradiction | skip
  · rename_i ks ws k _
    obtain ⟨a, kvs, rfl, ⟨h1, _⟩, h2, h3⟩ := rT_dic.mp hx
    obtain ⟨y, rfl, h4⟩ := relTs1 hs
    obtain ⟨o, e1, e2⟩ := Option.map_eq_some_iff.mp e
    obtain ⟨z, rfl, h5⟩ := look_get h4 h2 h3 e1
    obtain ⟨u, rfl, ru⟩ := vals1 rs
    cases rx
    exact d_get1 (by omega) I (DGet.k (k := z) h1) ru fun w' s' I' rw' => ⟨_, H, I', rw', q.here r e0 (by rw [← e2]; exact opt_fin h5 rel_non)⟩
  · rename_i ks ws k d1 _
    obtain ⟨a, kvs, rfl, ⟨h1, _⟩, h2, h3⟩ := rT_dic.mp hx
    obtain ⟨y, y2, rfl, h4, h42⟩ := relTs2 hs
    split at e
    · rename_i nl
      obtain ⟨o, e1, e2⟩ := Option.map_eq_some_iff.mp e
      obtain ⟨z, rfl, h5⟩ := look_get h4 h2 h3 e1
      obtain ⟨u, u2, rfl, ru, ru2⟩ := vals2 rs
      cases rx
      exact d_get2 (by omega) I (DGet.k (k := z) h1) ru ru2 fun w' s' I' rw' => ⟨_, H, I', rw', q.here r e0 (by rw [← e2]; exact opt_fin h5 (rel_of_notL h42 nl))⟩
    · cases e
  · rename_i ks ws k _
    obtain ⟨a, kvs, rfl, ⟨⟨es, m, kd⟩, wg⟩, h2, h3⟩ := rT_wdi.mp hx
    obtain ⟨y, rfl, h4⟩ := relTs1 hs
    obtain ⟨o, e1, e2⟩ := Option.map_eq_some_iff.mp e
    unfold lookW at e1
    split at e1
    · rename_i t
      obtain ⟨z, ez, h5⟩ := look_get h4 h2 h3 e1
      obtain ⟨rfl, _⟩ := rT_str.mp h4
      have ez2 : z = Sum.inr ⟨t.toArray⟩ := by
        cases z with
        | inl i => cases ez
        | inr w => cases ez; rfl
      subst ez2
      obtain ⟨r', e5, e6⟩ := wg ⟨t.toArray⟩
      rw [hK] at e5
      rw [hK, hw] at kd
      obtain ⟨u, rfl, tk, rfl⟩ := vals1 rs
      cases rx
      refine wd_get kd I e5 fun tk' => ⟨_, H, I.tok _, ?_, q.here r e0 (by rw [← e2]; exact opt_fin h5 rel_non)⟩
      exact e6.getD rfl
    · cases e1
  · rename_i ks ws k d1 _
    obtain ⟨a, kvs, rfl, ⟨⟨es, m, kd⟩, wg⟩, h2, h3⟩ := rT_wdi.mp hx
    obtain ⟨y, y2, rfl, h4, h42⟩ := relTs2 hs
    split at e
    · rename_i nl
      obtain ⟨o, e1, e2⟩ := Option.map_eq_some_iff.mp e
      unfold lookW at e1
      split at e1
      · rename_i t
        obtain ⟨z, ez, h5⟩ := look_get h4 h2 h3 e1
        obtain ⟨rfl, _⟩ := rT_str.mp h4
        have ez2 : z = Sum.inr ⟨t.toArray⟩ := by
          cases z with
          | inl i => cases ez
          | inr w => cases ez; rfl
        subst ez2
        obtain ⟨r', e5, e6⟩ := wg ⟨t.toArray⟩
        rw [hK] at e5
        rw [hK, hw] at kd
        obtain ⟨u, u2, rfl, ⟨tk, rfl⟩, ru2⟩ := vals2 rs
        cases rx
        refine wd_get2 kd I e5 fun tk' => ⟨_, H, I.tok _, ?_, q.here r e0 (by rw [← e2]; exact opt_fin h5 (rel_of_notL h42 nl))⟩
        exact e6.getD ru2
      · cases e1
    · cases e
/-- x.append(y), x in the store -/
theorem met_append : MtR X "list.append" (fun x vs H Q => ∃ ρ S n d, Rm Γ ρ S H ∧ Rel Γ ρ H (.ref n) x ∧ (∃ v, vs = [v] ∧ Rel Γ ρ H d v) ∧ okG Γ (fun _ _ _ => True) ρ H (metS .append n [d] S) (kV' Γ Q)) := by
  intro pins s σ H x vs v us Q I rx rs h
  obtain ⟨ρ, S, n, d, r, hx, ⟨w, rfl, hd⟩, q⟩ := h
  obtain ⟨a, rfl, ha⟩ := rT_ref.mp (rel_rT hx)
  unfold metS at q
  split at q <;> first | exact (show False from q).elim | skip
  rename_i xs y hS eY
  cases eY
  split at q
  · rename_i c
    rw [decide_eq_true_eq] at c
    obtain ⟨b, hb, us', h1, h2⟩ := r.at_ n _ hS
    rw [ha] at hb
    cases hb
    refine mt_append pins s σ H _ _ v us Q I rx rs ⟨a, us', w, rfl, rfl, h1, ?_, ?_⟩
    · rw [← h2.length]
      exact Nat.lt_of_lt_of_le c line_le
    · have hrel := h2.append (RelL.one hd)
      exact q ρ _ (Ext.write r ha h1) (Rm.write r ha h1 hrel) _ rel_non
  · exact (show False from q).elim
end
end Ev
set_option Elab.async false
set_option linter.all false
set_option autoImplicit false
set_option maxRecDepth 100000
set_option maxHeartbeats 4000000
/-! E7: truth, displays, subscripts, slices, built-ins, methods. -/
namespace Ev
open PySem PySem.Spec PyProof.Rows L2 TL
theorem evEs_len (P : Pg) : ∀ (n : Nat) (es : List Ex) (env : EnvD) (S : Sto) (ds : List D) (S' : Sto), evEs P n es env S = .ok ds S' → ds.length = es.length
  | 0, es, env, S, ds, S', h => by
    unfold evEs at h
    cases h
  | n + 1, [], env, S, ds, S', h => by
    unfold evEs at h
    cases h
    rfl
  | n + 1, e :: es, env, S, ds, S', h => by
    unfold evEs at h
    cases h1 : evE P n e env S with
    | ok d S1 =>
      rw [h1] at h
      simp only [R.bind] at h
      cases h2 : evEs P n es env S1 with
      | ok ds2 S2 =>
        rw [h2] at h
        cases h
        rw [List.length_cons, List.length_cons, evEs_len P n es env S1 ds2 _ h2]
      | exc c fs S2 =>
        rw [h2] at h
        cases h
      | bad =>
        rw [h2] at h
        cases h
    | exc c fs S1 =>
      rw [h1] at h
      cases h
    | bad =>
      rw [h1] at h
      cases h
section
variable {X : Cx} {Γ : Gd} {W : WX} {kp : Keep} {P : Pg} {a b c e : PySem.Expr} {x y z : Ex} {pos : Pos} {rest es : List PySem.Expr} {xs : List Ex}
variable {ρ ρ' : Loc} {S S' : Sto} {H H' : Hp} {env : EnvD} {σ : L2.St} {Q : VK} {n : Nat} {E : XK} {d : D} {v : V}
theorem okG.ok {dd : D} (h : okG Γ E ρ H (.ok dd S) (kV' Γ Q)) : okV Γ ρ S H (some dd) Q := ⟨dd, rfl, fun ρ' H' v e m r => h ρ' H' e m v r⟩
/-! ### truth -/
theorem h_and (hK : Γ.K = X.K) (ha : Hv X Γ W kp P a x) (hb : Hv X Γ W kp P (.BoolOp .And (b :: rest) pos) y) : Hv X Γ W kp P (.BoolOp .And (a :: b :: rest) pos) (.and_ x y) :=
  Hv.by (fun n => pe_andT (ha n) (hb n)) fun n σ H Q ⟨ρ, S, env, e, m, h⟩ => by
    unfold evE at h
    refine tE.mk e m h fun d1 S1 ρ1 H1 v1 x1 m1 e1 r1 h1 => ?_
    split at h1
    · rename_i t
      refine ⟨true, truth_ok hK (r1.look m1) t, ?_⟩
      rw [if_pos rfl]
      exact ⟨ρ1, S1, env, e1, m1, h1⟩
    · rename_i t
      refine ⟨false, truth_ok hK (r1.look m1) t, ?_⟩
      rw [if_neg Bool.false_ne_true]
      exact h1.here m1 _ r1
    · exact (show False from h1).elim
theorem h_or (hK : Γ.K = X.K) (ha : Hv X Γ W kp P a x) (hb : Hv X Γ W kp P (.BoolOp .Or (b :: rest) pos) y) : Hv X Γ W kp P (.BoolOp .Or (a :: b :: rest) pos) (.or_ x y) :=
  Hv.by (fun n => pe_orT (ha n) (hb n)) fun n σ H Q ⟨ρ, S, env, e, m, h⟩ => by
    unfold evE at h
    refine tE.mk e m h fun d1 S1 ρ1 H1 v1 x1 m1 e1 r1 h1 => ?_
    split at h1
    · rename_i t
      refine ⟨true, truth_ok hK (r1.look m1) t, ?_⟩
      rw [if_pos rfl]
      exact h1.here m1 _ r1
    · rename_i t
      refine ⟨false, truth_ok hK (r1.look m1) t, ?_⟩
      rw [if_neg Bool.false_ne_true]
      exact ⟨ρ1, S1, env, e1, m1, h1⟩
    · exact (show False from h1).elim
theorem h_one {op : BoolOp} (ha : Hv X Γ W kp P a x) : Hv X Γ W kp P (.BoolOp op [a] pos) x := fun n => pe_one (ha n)
theorem h_not (hK : Γ.K = X.K) (ha : Hv X Γ W kp P a x) : Hv X Γ W kp P (.UnaryOp .Not a pos) (.not_ x) :=
  Hv.by (fun n => pe_notT (ha n)) fun n σ H Q ⟨ρ, S, env, e, m, h⟩ => by
    unfold evE at h
    refine tE.mk e m h fun d1 S1 ρ1 H1 v1 x1 m1 e1 r1 h1 => ?_
    split at h1
    · rename_i k t
      exact ⟨k, truth_ok hK (r1.look m1) t, h1.here m1 _ rel_bl⟩
    · exact (show False from h1).elim
theorem h_ife (hc : HvT X Γ W kp P c z) (ha : Hv X Γ W kp P a x) (hb : Hv X Γ W kp P b y) : Hv X Γ W kp P (.IfExp c a b pos) (.ife z x y) :=
  Hv.by (fun n => pe_ifExp (hc n) (ha n) (hb n)) fun n σ H Q ⟨ρ, S, env, e, m, h⟩ => by
    unfold evE at h
    refine tT.mk e m h fun k S1 ρ1 H1 x1 m1 e1 h1 => ?_
    cases k with
    | true =>
      rw [if_pos rfl] at h1 ⊢
      exact ⟨ρ1, S1, env, e1, m1, h1⟩
    | false =>
      rw [if_neg Bool.false_ne_true] at h1 ⊢
      exact ⟨ρ1, S1, env, e1, m1, h1⟩
/-! ### tests -/
theorem pt_zero (x : Ex) : PT X e (tT Γ W kp P 0 x) := ⟨fun pins s σ H Q I ⟨_, _, _, _, _, h⟩ => by
  unfold evT at h
  exact (show False from h).elim⟩
theorem pw_zero (x : Ex) : PW X e (tT Γ W kp P 0 x) := ⟨fun wh pins s σ H Q I ⟨_, _, _, _, _, h⟩ => by
  unfold evT at h
  exact (show False from h).elim⟩
abbrev HvW (X : Cx) (Γ : Gd) (W : WX) (kp : Keep) (P : Pg) (e : PySem.Expr) (x : Ex) : Prop := ∀ n, PW X e (tT Γ W kp P n x)
theorem HvT.by {t : Nat → TT} (h : ∀ n, PT X e (t n)) (k : ∀ n σ H Q, tT Γ W kp P (n + 1) x σ H Q → t n σ H Q) : HvT X Γ W kp P e x
  | 0 => pt_zero x
  | n + 1 => ⟨fun pins s σ H Q I q => (h n).run pins s σ H Q I (k n σ H Q q)⟩
theorem HvW.by {t : Nat → TT} (h : ∀ n, PW X e (t n)) (k : ∀ n σ H Q, tT Γ W kp P (n + 1) x σ H Q → t n σ H Q) : HvW X Γ W kp P e x
  | 0 => pw_zero x
  | n + 1 => ⟨fun wh pins s σ H Q I q => (h n).run wh pins s σ H Q I (k n σ H Q q)⟩
theorem t_and (ha : HvT X Γ W kp P a x) (hb : HvW X Γ W kp P (.BoolOp .And (b :: rest) pos) y) : HvW X Γ W kp P (.BoolOp .And (a :: b :: rest) pos) (.and_ x y) :=
  HvW.by (fun n => pw_and (ha n) (hb n)) fun n σ H Q ⟨ρ, S, env, e, m, h⟩ => by
    unfold evT at h
    refine tT.mk e m h fun k S1 ρ1 H1 x1 m1 e1 h1 => ?_
    cases k with
    | true =>
      rw [if_pos rfl] at h1 ⊢
      exact ⟨ρ1, S1, env, e1, m1, h1⟩
    | false =>
      rw [if_neg Bool.false_ne_true] at h1 ⊢
      exact h1.here m1
theorem t_or (ha : HvT X Γ W kp P a x) (hb : HvW X Γ W kp P (.BoolOp .Or (b :: rest) pos) y) : HvW X Γ W kp P (.BoolOp .Or (a :: b :: rest) pos) (.or_ x y) :=
  HvW.by (fun n => pw_or (ha n) (hb n)) fun n σ H Q ⟨ρ, S, env, e, m, h⟩ => by
    unfold evT at h
    refine tT.mk e m h fun k S1 ρ1 H1 x1 m1 e1 h1 => ?_
    cases k with
    | true =>
      rw [if_pos rfl] at h1 ⊢
      exact h1.here m1
    | false =>
      rw [if_neg Bool.false_ne_true] at h1 ⊢
      exact ⟨ρ1, S1, env, e1, m1, h1⟩
theorem t_one_and (ha : HvT X Γ W kp P a x) : HvW X Γ W kp P (.BoolOp .And [a] pos) x := fun n => pw_and1 (ha n)
theorem t_one_or (ha : HvT X Γ W kp P a x) : HvW X Γ W kp P (.BoolOp .Or [a] pos) x := fun n => pw_or1 (ha n)
theorem t_not (ha : HvT X Γ W kp P a x) : HvT X Γ W kp P (.UnaryOp .Not a pos) (.not_ x) :=
  HvT.by (fun n => pt_not (ha n)) fun n σ H Q ⟨ρ, S, env, e, m, h⟩ => by
    unfold evT at h
    exact tT.mk e m h fun k S1 ρ1 H1 x1 m1 e1 h1 => h1.here m1
/-- the forms whose test is not by their value's truth -/
def plainEx : Ex → Bool
  | .and_ _ _ => false
  | .or_ _ _ => false
  | .not_ _ => false
  | _ => true
theorem evT_plain {P : Pg} {n : Nat} {x : Ex} {env : EnvD} {S : Sto} (h : plainEx x = true) : evT P (n + 1) x env S = (evE P n x env S).bind fun d S => R.of (d.look S).truth S := by
  cases x <;> first | (cases h; done) | (unfold evT; rfl)
theorem t_truth (hK : Γ.K = X.K) (hx : plainEx x = true) (ha : Hv X Γ W kp P a x) (he : ∀ whole, isTrue a X.env whole = (do let v ← whole; standAt a.pos; holding [v] (truthy v))) : HvT X Γ W kp P a x :=
  HvT.by (fun n => pt_truth (ha n) he) fun n σ H Q ⟨ρ, S, env, e, m, h⟩ => by
    rw [evT_plain hx] at h
    refine tE.mk e m h fun d S1 ρ1 H1 v1 x1 m1 e1 r1 h1 => ?_
    cases t : (d.look S1).truth with
    | none =>
      rw [t] at h1
      exact (show False from h1).elim
    | some k =>
      rw [t] at h1
      exact ⟨k, truth_ok hK (r1.look m1) t, h1.here m1⟩
/-! ### argument lists -/
theorem pa_zero (xs : List Ex) : PA X es (tEs Γ W kp P 0 xs) := ⟨fun pos pins s σ H Q I ⟨_, _, _, _, _, h⟩ => by
  unfold evEs at h
  exact (show False from h).elim⟩
theorem a_nil : HvA X Γ W kp P [] []
  | 0 => pa_zero _
  | n + 1 => ⟨fun pos pins s σ H Q I ⟨ρ, S, env, e, m, h⟩ => by
    unfold evEs at h
    exact pa_nil.run pos pins s σ H Q I (h.here m [] (relL_nil.mpr rfl))⟩
theorem a_cons (ha : Hv X Γ W kp P a x) (hb : HvA X Γ W kp P es xs) (hs : starEach (a :: es) X.env = (false, eval a X.env) :: starEach es X.env) : HvA X Γ W kp P (a :: es) (x :: xs)
  | 0 => pa_zero _
  | n + 1 => ⟨fun pos pins s σ H Q I ⟨ρ, S, env, e, m, h⟩ => by
    refine (pa_cons (ha n) (hb n) hs).run pos pins s σ H Q I ?_
    unfold evEs at h
    refine tE.mk e m h fun d S1 ρ1 H1 v1 x1 m1 e1 r1 h1 => tEs.mk e1 m1 h1 fun ds S2 ρ2 H2 vs x2 m2 e2 r2 h2 => ?_
    exact h2.here m2 _ (relL_cons.mpr ⟨v1, vs, rfl, Rel.ext m1 x2 _ _ r1, r2⟩)⟩
/-! ### displays -/
theorem okG.len {n : Nat} {xs : List Ex} {K : List D → Sto → Loc → Hp → Prop} (h : okG Γ E ρ H (evEs P n xs env S) K) : okG Γ E ρ H (evEs P n xs env S) fun ds S ρ H => ds.length = xs.length ∧ K ds S ρ H := by
  cases e : evEs P n xs env S with
  | ok ds S1 =>
    rw [e] at h
    exact fun ρ' H' x m => ⟨evEs_len P n xs env S ds S1 e, h ρ' H' x m⟩
  | exc c fs S1 =>
    rw [e] at h
    exact h
  | bad =>
    rw [e] at h
    exact h
theorem tEs.mkL {xs : List Ex} {β : Type} {Q : List V → Hp → Prop} {f : List D → Sto → R β} {K : β → Sto → Loc → Hp → Prop} (e : EnvR Γ ρ H kp env σ) (m : Rm Γ ρ S H) (h : okG Γ (WE W σ) ρ H ((evEs P n xs env S).bind f) K)
    (k : ∀ ds S1 ρ1 H1 vs, ds.length = xs.length → Ext ρ H ρ1 H1 → Rm Γ ρ1 S1 H1 → EnvR Γ ρ1 H1 kp env σ → RelL Γ ρ1 H1 ds vs → okG Γ (WE W σ) ρ1 H1 (f ds S1) K → Q vs H1) : tEs Γ W kp P n xs σ H Q :=
  ⟨ρ, S, env, e, m, h.bind.len.mono fun d S1 ρ1 H1 x1 m1 ⟨l, _, _, q⟩ v r => k d S1 ρ1 H1 v l x1 m1 (e.ext m x1) r q⟩
theorem h_tup {k : Nat} (hl : xs.length ≤ 1000) (ha : HvA X Γ W kp P es xs) : Hv X Γ W kp P (.Tuple es k pos) (.tup xs) :=
  Hv.by (fun n => pe_tup (ha n)) fun n σ H Q ⟨ρ, S, env, e, m, h⟩ => by
    unfold evE at h
    refine tEs.mkL e m h fun ds S1 ρ1 H1 vs l x1 m1 e1 r1 h1 => ⟨?_, fun p hp => h1.ok.newTup m1 rfl r1 hp⟩
    rw [← r1.length, l, sizeLine_eq]
    omega
theorem h_lst (hl : xs.length ≤ 1000) (ha : HvA X Γ W kp P es xs) : Hv X Γ W kp P (.List es pos) (.lst xs) :=
  Hv.by (fun n => pe_lst (ha n)) fun n σ H Q ⟨ρ, S, env, e, m, h⟩ => by
    unfold evE at h
    refine tEs.mkL e m h fun ds S1 ρ1 H1 vs l x1 m1 e1 r1 h1 => ⟨?_, fun p hp => h1.ok.newLst m1 rfl r1 hp⟩
    rw [← r1.length, l, sizeLine_eq]
    omega
/-- a display that is written: an object of the store -/
theorem h_new (hl : xs.length ≤ 1000) (ha : HvA X Γ W kp P es xs) : Hv X Γ W kp P (.List es pos) (.new (.lst xs))
  | 0 => pe_zero _
  | 1 => ⟨fun pins s σ H Q I ⟨ρ, S, env, e, m, h⟩ => by
    unfold evE at h
    simp only [evE, R.bind] at h
    exact (show False from h).elim⟩
  | n + 2 => ⟨fun pins s σ H Q I ⟨ρ, S, env, e, m, h⟩ => by
    refine (pe_lst (ha n)).run pins s σ H Q I ?_
    unfold evE at h
    have h' := h.bind
    unfold evE at h'
    refine tEs.mkL e m h' fun ds S1 ρ1 H1 vs l x1 m1 e1 r1 h1 => ⟨?_, fun p hp => ?_⟩
    · rw [← r1.length, l, sizeLine_eq]
      omega
    · obtain ⟨_, _, h2⟩ := h1.here m1
      refine h2 (nameAt ρ1 S1.length p) _ (Ext.name m1.noneAt hp) (Rm.name m1 hp r1) _ ?_
      unfold Rel
      exact ⟨p, rfl, by unfold nameAt; rw [if_pos rfl]⟩⟩
/-! ### subscripts, slices -/
theorem h_sub (C : Cmp3 X Γ) (hs : PlainIx b) (ha : Hv X Γ W kp P a x) (hb : Hv X Γ W kp P b y) : Hv X Γ W kp P (.Subscript a b pos) (.sub x y) :=
  Hv.by (fun n => pe_ix (sub_ok C.K C.w C.hu) (ha n) (hb n) hs) fun n σ H Q ⟨ρ, S, env, e, m, h⟩ => by
    unfold evE at h
    refine tE.mk e m h fun d1 S1 ρ1 H1 v1 x1 m1 e1 r1 h1 => tE.mk e1 m1 h1 fun d2 S2 ρ2 H2 v2 x2 m2 e2 r2 h2 => ?_
    exact ⟨ρ2, S2, _, _, m2, (Rel.ext m1 x2 _ _ r1).look m2, r2, h2.of⟩
/-- a slice's part -/
def HvO (X : Cx) (Γ : Gd) (W : WX) (kp : Keep) (P : Pg) (o : Option PySem.Expr) (x : Ex) : Prop := match o with
  | none => x = .cst .non
  | some e => Hv X Γ W kp P e x
def tO (Γ : Gd) (W : WX) (kp : Keep) (P : Pg) (n : Nat) (x : Ex) : TO := fun σ H Q => ∃ ρ S env, EnvR Γ ρ H kp env σ ∧ Rm Γ ρ S H ∧ okG Γ (WE W σ) ρ H (evE P n x env S) fun d _ _ H' => ∃ p, partX x d = some p ∧ Q p H'
theorem partX_int {x : Ex} {d : D} {p : Option Int} (h : x ≠ .cst .non) (e : partX x d = some p) : ∃ i, d = .int i ∧ p = some i := by
  unfold partX at e
  split at e
  · exact absurd rfl h
  · split at e
    · cases e
      exact ⟨_, rfl, rfl⟩
    · cases e
theorem po_of {o : Option PySem.Expr} (h : HvO X Γ W kp P o x) (hx : o ≠ none → x ≠ .cst .non) (n : Nat) : PO X o (tO Γ W kp P n x) := by
  cases o with
  | none =>
    refine ⟨fun pins s σ H Q I ⟨ρ, S, env, e, m, q⟩ => po_none.run pins s σ H Q I ?_⟩
    rw [show x = .cst .non from h] at q
    cases n with
    | zero =>
      unfold evE at q
      exact (show False from q).elim
    | succ n =>
      unfold evE at q
      obtain ⟨p, e1, e2⟩ := q.here m
      cases e1
      exact e2
  | some a =>
    refine ⟨fun pins s σ H Q I ⟨ρ, S, env, e, m, q⟩ => (po_some (h n)).run pins s σ H Q I ⟨ρ, S, env, e, m, q.mono fun d S1 ρ1 H1 x1 m1 ⟨p, e1, e2⟩ v r => ?_⟩⟩
    obtain ⟨i, rfl, rfl⟩ := partX_int (hx (by simp)) e1
    exact ⟨i, rT_int.mp (rel_rT r), e2⟩
theorem tO.mk {β : Type} {Q : Option Int → Hp → Prop} {f : D → Sto → R β} {K : β → Sto → Loc → Hp → Prop} (e : EnvR Γ ρ H kp env σ) (m : Rm Γ ρ S H) (h : okG Γ (WE W σ) ρ H ((evE P n x env S).bind f) K)
    (k : ∀ d S1 ρ1 H1, Ext ρ H ρ1 H1 → Rm Γ ρ1 S1 H1 → EnvR Γ ρ1 H1 kp env σ → okG Γ (WE W σ) ρ1 H1 (f d S1) K → ∃ p, partX x d = some p ∧ Q p H1) : tO Γ W kp P n x σ H Q :=
  ⟨ρ, S, env, e, m, h.bind.mono fun d S1 ρ1 H1 x1 m1 ⟨_, _, q⟩ => k d S1 ρ1 H1 x1 m1 (e.ext m x1) q⟩
theorem h_slc {lo hi : Option PySem.Expr} {l u : Ex} {p2 : Pos} (C : Cmp3 X Γ) (ha : Hv X Γ W kp P a x) (hl : HvO X Γ W kp P lo l) (hl2 : lo ≠ none → l ≠ .cst .non) (hu : HvO X Γ W kp P hi u) (hu2 : hi ≠ none → u ≠ .cst .non) :
    Hv X Γ W kp P (.Subscript a (.Slice lo hi none p2) pos) (.slc x l u) :=
  Hv.by (fun n => pe_slice (slc_ok C.K) (ha n) (po_of hl hl2 n) (po_of hu hu2 n)) fun n σ H Q ⟨ρ, S, env, e, m, h⟩ => by
    unfold evE at h
    refine tE.mk e m h fun d1 S1 ρ1 H1 v1 x1 m1 e1 r1 h1 => tO.mk e1 m1 h1 fun d2 S2 ρ2 H2 x2 m2 e2 h2 => ?_
    split at h2
    · rename_i p ep
      refine ⟨p, ep, tO.mk e2 m2 h2 fun d3 S3 ρ3 H3 x3 m3 e3 h3 => ?_⟩
      split at h3
      · rename_i q eq
        exact ⟨q, eq, ρ3, S3, _, m3, (Rel.ext m2 x3 _ _ (Rel.ext m1 x2 _ _ r1)).look m3, h3.of⟩
      · exact (show False from h3).elim
    · exact (show False from h2).elim
end
end Ev
set_option Elab.async false
set_option linter.all false
set_option autoImplicit false
set_option maxRecDepth 100000
set_option maxHeartbeats 4000000
/-! E8: calls of built-ins, isinstance, methods; iterators. -/
namespace Ev
open PySem PySem.Spec PyProof.Rows L2 TL
def bifN : Bf → Str
  | .len => "len" | .abs => "abs" | .max => "max" | .min => "min" | .divmod => "divmod"
  | .int => "int" | .str => "str" | .repr => "repr" | .all => "all" | .any => "any" | .sum => "sum"
  | .tuple => "tuple" | .list => "list"
theorem bifN_boot (b : Bf) : bootBuiltins (bifN b) = some b.val := by cases b <;> decide +kernel
def clN : Cl → String
  | .tInt => "int" | .tBool => "bool" | .tStr => "str" | .tTup => "tuple" | .tLst => "list"
def clS : Cl → Str
  | .tInt => "int" | .tBool => "bool" | .tStr => "str" | .tTup => "tuple" | .tLst => "list"
theorem clS_boot (c : Cl) : bootBuiltins (clS c) = some (.type (clN c)) := by cases c <;> decide +kernel
section
variable {X : Cx} {Γ : Gd} {W : WX} {kp : Keep} {P : Pg} {a b c e : PySem.Expr} {x y z : Ex} {p pos apos cpos : Pos} {rest es : List PySem.Expr} {xs : List Ex}
variable {ρ ρ' : Loc} {S S' : Sto} {H H' : Hp} {env : EnvD} {σ : L2.St} {Q : VK} {n : Nat} {E : XK} {d : D} {v : V}
theorem h_bif (C : Calm X Γ) (b : Bf) (hg : b = .repr → X.A.guards = some []) (gl : Gl X (bifN b)) (hm : X.mg (bifN b) = none) (ha : HvA X Γ W kp P (e :: es) xs)
    (he : starEach (e :: es) X.env = (false, eval e X.env) :: starEach es X.env) (hpl : (backTo pos (starEach es X.env)).any (·.1) = false) : Hv X Γ W kp P (.Call (.Name (bifN b) p) (e :: es) [] pos) (.bif b xs) := by
  have key : ∀ n, PE X (.Call (.Name (bifN b) p) (e :: es) [] pos) (tCB (rC Γ (bifD b)) (tEs Γ W kp P n xs)) := fun n => by
    have hr := bif_ok C b hg
    have hv := bifN_boot b
    have hn : bifN b ≠ "__name__" := by cases b <;> decide
    have hdb : (bifN b == ("__debug__" : Str)) = false := by cases b <;> decide
    cases b <;> first
      | exact pe_callB hr gl hm hv (ha n) hn hdb he hpl
      | exact pe_callTy hr gl hm hv (ha n) hn hdb he hpl
  refine Hv.by key fun n σ H Q ⟨ρ, S, env, e, m, h⟩ => ?_
  unfold evE at h
  refine tEs.mk e m h fun ds S1 ρ1 H1 vs x1 m1 e1 r1 h1 => ?_
  exact ⟨ρ1, S1, _, m1, r1.looks m1, h1.of⟩
/-! ### isinstance -/
theorem isi_ok (hK : Γ.K = X.K) (c : Cl) : CallR X (.builtin "isinstance") (fun vs H Q => ∃ ρ S dx x, vs = [x, .ty (clN c)] ∧ Rm Γ ρ S H ∧ RelT Γ ρ H dx x ∧ okV Γ ρ S H ((isiD c dx).map .bl) Q) := by
  refine CallR.mono call_isi fun vs H Q h => ?_
  obtain ⟨ρ, S, dx, x, rfl, r, hx, q⟩ := h
  obtain ⟨d, e, _⟩ := id q
  obtain ⟨k, e1, rfl⟩ := Option.map_eq_some_iff.mp e
  have fin : ∀ {T : String}, TyX X.K H x (.type T) → kitB T (clN c) = some k → rIsi X.K [x, .ty (clN c)] H Q := fun {T} ty kb =>
    ⟨x, .ty (clN c), .type T, .type (clN c), k, rfl, .ty _, ty, kit_ty kb, q.here r e rel_bl⟩
  cases dx with
  | non =>
    rw [rT_non.mp hx] at fin ⊢
    refine fin (.base .non) ?_
    cases e1
    cases c <;> decide +kernel
  | bl b =>
    rw [rT_bl.mp hx] at fin ⊢
    refine fin (.base (.bl b)) ?_
    cases c <;> cases e1 <;> decide +kernel
  | int i =>
    rw [rT_int.mp hx] at fin ⊢
    refine fin (.base (.int i)) ?_
    cases c <;> cases e1 <;> decide +kernel
  | str z =>
    obtain ⟨e2, _⟩ := rT_str.mp hx
    subst e2
    refine fin (.base (.str _)) ?_
    cases c <;> cases e1 <;> decide +kernel
  | tup ds =>
    obtain ⟨a, ws, e2, h1, _⟩ := rT_tup.mp hx
    subst e2
    rw [hK] at h1
    have ty : TyX X.K H (.ref a) (.type "tuple") := by
      rcases h1 with (h1 | ⟨o, h1⟩) | ⟨o, its, n, h1, h2, _⟩
      · exact .base (.tup h1)
      · exact .fTuple h1
      · exact .kTuple h1 h2
    refine fin ty ?_
    cases c <;> cases e1 <;> decide +kernel
  | lst ds =>
    obtain ⟨a, ws, e2, h1, _⟩ := rT_lst.mp hx
    subst e2
    refine fin (.base (.lst h1)) ?_
    cases c <;> cases e1 <;> decide +kernel
  | frl ds =>
    obtain ⟨a, ws, o, e2, h1, _⟩ := rT_frl.mp hx
    subst e2
    refine fin (.base (.frz h1)) ?_
    cases c <;> cases e1 <;> decide +kernel
  | _ => cases e1
theorem h_isi {p2 : Pos} (hK : Γ.K = X.K) (c : Cl) (gl : Gl X "isinstance") (hm : X.mg "isinstance" = none) (gl2 : Gl X (clS c)) (hm2 : X.mg (clS c) = none) (ha : Hv X Γ W kp P a x)
    (he : starEach [a, .Name (clS c) p2] X.env = (false, eval a X.env) :: starEach [.Name (clS c) p2] X.env) : Hv X Γ W kp P (.Call (.Name "isinstance" p) [a, .Name (clS c) p2] [] pos) (.isi x c) := by
  have hn : clS c ≠ "__name__" := by cases c <;> decide
  have hdb : (clS c == ("__debug__" : Str)) = false := by cases c <;> decide
  have key : ∀ n, PE X (.Call (.Name "isinstance" p) [a, .Name (clS c) p2] [] pos) (tCB _ (tCons (tE Γ W kp P n x) (tCons (tC (.ty (clN c))) tNil))) := fun n =>
    pe_callB (isi_ok (Γ := Γ) hK c) gl hm boot_isinstance (pa_cons (ha n) (pa_cons (pe_bltn gl2 hm2 (clS_boot c) (v := .ty (clN c)) rfl hn hdb) pa_nil rfl) he) (by decide) (by decide) he rfl
  refine Hv.by key fun n σ H Q ⟨ρ, S, env, e, m, h⟩ => ?_
  unfold evE at h
  refine tE.mk e m h fun d1 S1 ρ1 H1 v1 x1 m1 e1 r1 h1 => ?_
  exact ⟨ρ1, S1, _, v1, rfl, m1, r1.look m1, h1.of⟩
/-! ### methods -/
/-- the value is of the built-in type T, no attributes of its own -/
def TyV2 (X : Cx) (T : String) (x : V) (H : Hp) : Prop := ∀ (pins : List (Addr × Obj)) (σ : L2.St) (s : Shared) (v : Value), Inv X pins σ H s → RelV x v → s.TypeIs v T ∧ ∀ a, v = .ref a → ∃ ob, s.heap.get? a = some ob ∧ ob.dict = none
theorem tyV2_of {T : String} (h : tyV X.K T v H) : TyV2 X T v H := fun pins σ s u I r => tyV_is I r h
theorem tyD_ok (hK : Γ.K = X.K) (hw : Γ.w = X.w) (m : Rm Γ ρ S H) (r : Rel Γ ρ H d v) {T : String} (h : tyD d = some T) : TyV2 X T v H := by
  cases d with
  | str z =>
    cases h
    obtain ⟨e, _⟩ := rT_str.mp (rel_rT r)
    subst e
    exact tyV2_of rfl
  | lst ds =>
    cases h
    obtain ⟨a, ws, e, h1, _⟩ := rT_lst.mp (rel_rT r)
    subst e
    exact tyV2_of (.inl ⟨rfl, ws, SqL.of h1⟩)
  | frl ds =>
    cases h
    obtain ⟨a, ws, o, e, h1, _⟩ := rT_frl.mp (rel_rT r)
    subst e
    exact tyV2_of (.inl ⟨rfl, ws, .inl (.inr ⟨o, h1⟩)⟩)
  | ref k =>
    cases h
    obtain ⟨a, e, h1⟩ := rT_ref.mp (rel_rT r)
    subst e
    obtain ⟨ws, h2⟩ := m.named h1
    exact tyV2_of (.inl ⟨rfl, ws, SqL.of h2⟩)
  | dic ks ds =>
    cases h
    obtain ⟨a, kvs, e, ⟨h1, _⟩, _⟩ := rT_dic.mp (rel_rT r)
    subst e
    exact tyV2_of (.inr (.inr (.inl ⟨rfl, .inl ⟨kvs, h1⟩⟩)))
  | wdi ks ds =>
    cases h
    obtain ⟨a, kvs, e, ⟨⟨es, k, kd⟩, _⟩, _⟩ := rT_wdi.mp (rel_rT r)
    subst e
    rw [hK, hw] at kd
    intro pins σ s u I ru
    obtain rfl : u = Value.ref a := ru
    refine ⟨kd_type kd I, fun b z => ?_⟩
    cases z
    exact ⟨_, I.kIn _ _ kd.at_, rfl⟩
  | _ => cases h
def tMt (X : Cx) (T : String) (r : V → List V → Hp → VK → Prop) (to : TE) (t : TA) : TE := fun σ H Q => to σ H fun x H1 => TyV2 X T x H1 ∧ t σ H1 fun xs H2 => r x xs H2 Q
/-- what must be seen of the text of o.m(e, ..) -/
structure Mth (X : Cx) (o : PySem.Expr) (name : Str) (apos : Pos) (e : PySem.Expr) (es : List PySem.Expr) (cpos : Pos) : Prop where
  base : attributeBase o name X.env (eval o X.env) = eval o X.env
  few : ((backTo cpos (starEach (e :: es) X.env)).all (fun x => !x.1) && (backToKw cpos (keywordEach [] X.env)).all (fun x => x.1.isSome)
      && decide ((e :: es).length + ([] : List Keyword).length + (if ([] : List Keyword).isEmpty then 0 else 1) < 30)) = true
  line : (apos.endLine == cpos.line) = true
  star : starEach (e :: es) X.env = (false, eval e X.env) :: starEach es X.env
  plain : (backTo cpos (starEach es X.env)).any (·.1) = false
theorem pe_mt {o : PySem.Expr} {T id : String} {name : Str} {r : V → List V → Hp → VK → Prop} {to : TE} {t : TA} (pa : PlainAttrs T) (slot : Slot T name id) (hty : typeOf (.builtin id) = pure (.type "method_descriptor")) (hm : MtR X id r) (ho : PE X o to) (ha : PA X (e :: es) t)
    (M : Mth X o name apos e es cpos) : PE X (.Call (.Attribute o name apos) (e :: es) [] cpos) (tMt X T r to t) := by
  refine ⟨fun pins s σ H Q I h => ?_⟩
  refine wpAny_Call_method_late M.base M.few M.line rfl (thn (ho.run pins s σ H _ I h) fun v s1 ⟨x, H1, I1, r1, ty, q1⟩ => ?_)
  obtain ⟨h1, h2⟩ := ty pins σ s1 v I1 r1
  refine ⟨T, id, pa, slot, hty, h1, h2, ?_⟩
  have hA := ha.run cpos pins s1 σ H1 _ I1 q1
  rw [M.star] at hA ⊢
  refine Calls.callWith_builtin (by show (false || (backTo cpos (starEach es X.env)).any (·.1)) = false; rw [M.plain] <;> rfl) (Calls.evalArgs_plain ?_)
  exact thn hA fun us s2 ⟨xs, H2, I2, r2, q2⟩ => hm pins s2 σ H2 x xs v us Q I2 r1 r2 q2
def metN : Mt → Str
  | .join => "join" | .split => "split" | .append => "append" | .get => "get"
def metT : Mt → String
  | .join => "str" | .split => "str" | .append => "list" | .get => "dict"
theorem metK_ty {m : Mt} {d : D} (h : metK m d = true) : tyD d = some (metT m) := by
  cases m <;> cases d <;> first | rfl | cases h
theorem m_pure {m : Mt} {id : String} (pa : PlainAttrs (metT m)) (slot : Slot (metT m) (metN m) id) (hty : typeOf (.builtin id) = pure (.type "method_descriptor")) (hm : MtR X id (rM Γ (metD m))) (hK : Γ.K = X.K) (hw : Γ.w = X.w)
    (hr : ∀ k, metK m (.ref k) = false) (hl : ∀ d, metK m d = true → notL d = true) (ha : Hv X Γ W kp P a x) (hb : HvA X Γ W kp P (e :: es) xs) (M : Mth X a (metN m) apos e es cpos) : Hv X Γ W kp P (.Call (.Attribute a (metN m) apos) (e :: es) [] cpos) (.met m x xs) := by
  refine Hv.by (fun n => pe_mt pa slot hty hm (ha n) (hb n) M) fun n σ H Q ⟨ρ, S, env, e, m1, h⟩ => ?_
  unfold evE at h
  refine tE.mk e m1 h fun d1 S1 ρ1 H1 v1 x1 m1 e1 r1 h1 => ?_
  split at h1
  · rename_i mk
    refine ⟨tyD_ok hK hw m1 r1 (metK_ty mk), tEs.mk e1 m1 h1 fun ds S2 ρ2 H2 vs x2 m2 e2 r2 h2 => ?_⟩
    cases d1 with
    | ref k =>
      rw [hr k] at mk
      cases mk
    | _ => exact ⟨ρ2, S2, _, _, m2, rel_rT (Rel.ext m1 x2 _ _ r1), r2.looks m2, h2.of⟩
  · exact (show False from h1).elim
theorem metS_one {n : Nat} {ds : List D} {S : Sto} (h : metS .append n ds S ≠ .bad) : ∃ y, ds = [y] := by
  unfold metS at h
  split at h
  · skip
    exact ⟨_, rfl⟩
  · exact absurd rfl h
theorem h_met (hK : Γ.K = X.K) (hw : Γ.w = X.w) (hu : X.A.units + 66 < cLine) (m : Mt) (ha : Hv X Γ W kp P a x) (hb : HvA X Γ W kp P (e :: es) xs) (M : Mth X a (metN m) apos e es cpos) : Hv X Γ W kp P (.Call (.Attribute a (metN m) apos) (e :: es) [] cpos) (.met m x xs) := by
  cases m with
  | join => exact m_pure (m := .join) PySem.F.plainAttrs_str PySem.F.slot_str_join PySem.F.type_str_join (met_join hK) hK hw (fun _ => rfl) (fun d h => by cases d <;> first | rfl | cases h) ha hb M
  | split => exact m_pure (m := .split) PySem.F.plainAttrs_str PySem.F.slot_str_split PySem.F.type_str_split (met_split hK) hK hw (fun _ => rfl) (fun d h => by cases d <;> first | rfl | cases h) ha hb M
  | get => exact m_pure (m := .get) PySem.F.plainAttrs_dict PySem.F.slot_dict_get PySem.F.type_dict_get (met_get hK hw hu) hK hw (fun _ => rfl) (fun d h => by cases d <;> first | rfl | cases h) ha hb M
  | append =>
    refine Hv.by (fun n => pe_mt PySem.F.plainAttrs_list PySem.F.slot_list_append PySem.F.type_list_append (met_append (Γ := Γ)) (ha n) (hb n) M) fun n σ H Q ⟨ρ, S, env, e, m1, h⟩ => ?_
    unfold evE at h
    refine tE.mk e m1 h fun d1 S1 ρ1 H1 v1 x1 m1 e1 r1 h1 => ?_
    split at h1
    · rename_i mk
      refine ⟨tyD_ok hK hw m1 r1 (metK_ty mk), tEs.mk e1 m1 h1 fun ds S2 ρ2 H2 vs x2 m2 e2 r2 h2 => ?_⟩
      cases d1 with
      | ref k =>
        simp only at h2
        have ne : metS .append k ds S2 ≠ .bad := fun z => by
          rw [z] at h2
          exact h2
        obtain ⟨y, rfl⟩ := metS_one ne
        obtain ⟨w, q, rfl, r3, r4⟩ := relL_cons.mp r2
        rw [relL_nil.mp r4]
        refine ⟨ρ2, S2, k, y, m2, Rel.ext m1 x2 _ _ r1, ⟨w, rfl, r3⟩, ?_⟩
        cases e3 : metS .append k [y] S2 with
        | ok dd S3 =>
          rw [e3] at h2
          exact h2
        | exc c fs S3 =>
          exfalso
          unfold metS at e3
          split at e3
          · split at e3 <;> cases e3
          · cases e3
        | bad =>
          rw [e3] at h2
          exact h2
      | _ => cases mk
    · exact (show False from h1).elim
end
end Ev
set_option Elab.async false
set_option linter.all false
set_option autoImplicit false
set_option maxRecDepth 100000
set_option maxHeartbeats 4000000
/-! E9: what is walked; list comprehensions. -/
namespace Ev
open PySem PySem.Spec PyProof.Rows L2 TL
section
variable {X : Cx} {Γ : Gd} {W : WX} {kp : Keep} {P : Pg} {a b c e tg : PySem.Expr} {x y z : Ex} {p pos apos cpos : Pos} {rest es : List PySem.Expr} {xs : List Ex}
variable {ρ ρ' : Loc} {S S' : Sto} {H H' : Hp} {env : EnvD} {σ : L2.St} {Q : VK} {n : Nat} {E : XK} {d : D} {v : V}
theorem drop_cons {d : D} {r : List D} {vs : List V} {i : Nat} (h : RelL Γ ρ H (d :: r) (vs.drop i)) : ∃ v, vs[i]? = some v ∧ Rel Γ ρ H d v ∧ RelL Γ ρ H r (vs.drop (i + 1)) := by
  obtain ⟨v, q, e, h1, h2⟩ := relL_cons.mp h
  refine ⟨v, ?_, h1, ?_⟩
  · have : (vs.drop i)[0]? = some v := by rw [e]; rfl
    rw [List.getElem?_drop] at this
    simpa using this
  · have : vs.drop (i + 1) = q := by
      have z : (vs.drop i).drop 1 = q := by rw [e]; rfl
      rw [List.drop_drop] at z
      exact z
    rw [this]
    exact h2
theorem drop_nil {vs : List V} {i : Nat} (h : RelL Γ ρ H [] (vs.drop i)) : vs.length ≤ i := List.drop_eq_nil_iff.mp (relL_nil.mp h)
theorem sqT_inj {K : PySem.W.Frag} {a : Addr} {xs ys : List V} (P : Program) (w : World) {h : Heap} (hok : HOk P w H h) (h1 : SqT K H a xs) (h2 : SqT K H a ys) : True := trivial
/-- a tuple -/
def Zt (Γ : Gd) (a : Addr) : Nat → Src → Loc → Sto → Hp → Prop := fun i src ρ S H => ∃ ys vs, src = .fix ys ∧ SqT Γ.K H a vs ∧ RelL Γ ρ H ys (vs.drop i)
theorem next_fix {ys : List D} {i : Nat} {S : Sto} {d : D} {src' : Src} (h : (Src.fix ys).next i S = some (some (d, src'))) : ∃ r, ys = d :: r ∧ src' = .fix r := by
  cases ys with
  | nil => cases h
  | cons y r =>
    cases h
    exact ⟨r, rfl, rfl⟩
theorem next_fix_end {ys : List D} {i : Nat} {S : Sto} (h : (Src.fix ys).next i S = some none) : ys = [] := by
  cases ys with
  | nil => rfl
  | cons y r => cases h
theorem wk_tup (a : Addr) : WkR Γ (Itt Γ.K a) (Zt Γ a) where
  step := by
    rintro i src ρ S H d src' ⟨ys, vs, rfl, h1, h2⟩ m e
    obtain ⟨r, rfl, rfl⟩ := next_fix e
    obtain ⟨v, e1, h3, h4⟩ := drop_cons h2
    refine ⟨⟨vs, v, h1, e1⟩, fun x H' ⟨e2, e3⟩ => ?_⟩
    subst e2
    have := e3 vs h1
    rw [e1] at this
    cases this
    exact ⟨Ext.refl _ _, m, h3, r, vs, rfl, h1, h4⟩
  stop := by
    rintro i src ρ S H ⟨ys, vs, rfl, h1, h2⟩ m e
    rw [next_fix_end e] at h2
    exact ⟨vs, h1, drop_nil h2⟩
  ext := by
    rintro i src ρ S H ρ' S' H' ⟨ys, vs, rfl, h1, h2⟩ m x m'
    exact ⟨ys, vs, rfl, sqT_ext0 m x h1, RelL.ext0 m x _ _ h2⟩
/-- a list that nobody writes -/
def Zl (Γ : Gd) (a : Addr) : Nat → Src → Loc → Sto → Hp → Prop := fun i src ρ S H => ∃ ys vs, src = .fix ys ∧ (LstAt ρ H a vs ∨ ∃ o, H a = some (.frz o (.lst vs))) ∧ RelL Γ ρ H ys (vs.drop i)
theorem sqL_of {K : PySem.W.Frag} {vs : List V} {a : Addr} (h : LstAt ρ H a vs ∨ ∃ o, H a = some (.frz o (.lst vs))) : SqL K H a vs := by
  rcases h with h | ⟨o, h⟩
  · exact SqL.of h.1
  · exact .inl (.inr ⟨o, h⟩)
theorem wk_lst (K : PySem.W.Frag) (a : Addr) : WkR Γ (Itl K a) (Zl Γ a) where
  step := by
    rintro i src ρ S H d src' ⟨ys, vs, rfl, h1, h2⟩ m e
    obtain ⟨r, rfl, rfl⟩ := next_fix e
    obtain ⟨v, e1, h3, h4⟩ := drop_cons h2
    refine ⟨⟨vs, v, sqL_of h1, e1⟩, fun x H' ⟨e2, e3⟩ => ?_⟩
    subst e2
    have := e3 vs (sqL_of h1)
    rw [e1] at this
    cases this
    exact ⟨Ext.refl _ _, m, h3, r, vs, rfl, h1, h4⟩
  stop := by
    rintro i src ρ S H ⟨ys, vs, rfl, h1, h2⟩ m e
    rw [next_fix_end e] at h2
    exact ⟨vs, sqL_of h1, drop_nil h2⟩
  ext := by
    rintro i src ρ S H ρ' S' H' ⟨ys, vs, rfl, h1, h2⟩ m x m'
    refine ⟨ys, vs, rfl, ?_, RelL.ext0 m x _ _ h2⟩
    rcases h1 with h1 | ⟨o, h1⟩
    · exact .inl (lstAt_ext0 x h1)
    · exact .inr ⟨o, x.frm a _ h1 (m.tupNo h1 (fun _ z => nomatch z)) trivial⟩
/-- a list of the store -/
def Zv (a : Addr) (k : Nat) : Nat → Src → Loc → Sto → Hp → Prop := fun i src ρ S H => src = .live k ∧ ρ k = some a
theorem wk_live (K : PySem.W.Frag) (a : Addr) (k : Nat) : WkR Γ (Itl K a) (Zv a k) where
  step := by
    rintro i src ρ S H d src' ⟨rfl, h1⟩ m e
    unfold Src.next at e
    simp only at e
    split at e
    · rename_i xs es
      obtain ⟨b, hb, vs, h2, h3⟩ := m.at_ k _ es
      rw [h1] at hb
      cases hb
      cases e1 : xs[i]? with
      | none =>
        rw [e1] at e
        cases e
      | some d0 =>
        rw [e1] at e
        cases e
        obtain ⟨v, e2, h4⟩ := h3.get e1
        refine ⟨⟨vs, v, SqL.of h2, e2⟩, fun x H' ⟨e3, e4⟩ => ?_⟩
        subst e3
        have := e4 vs (SqL.of h2)
        rw [e2] at this
        cases this
        exact ⟨Ext.refl _ _, m, h4, rfl, h1⟩
    · cases e
  stop := by
    rintro i src ρ S H ⟨rfl, h1⟩ m e
    unfold Src.next at e
    simp only at e
    split at e
    · rename_i xs es
      obtain ⟨b, hb, vs, h2, h3⟩ := m.at_ k _ es
      rw [h1] at hb
      cases hb
      cases e1 : xs[i]? with
      | none =>
        refine ⟨vs, SqL.of h2, ?_⟩
        rw [← h3.length]
        exact List.getElem?_eq_none_iff.mp e1
      | some d0 =>
        rw [e1] at e
        cases e
    · cases e
  ext := by
    rintro i src ρ S H ρ' S' H' ⟨rfl, h1⟩ m x m'
    exact ⟨rfl, x.up k a h1⟩
/-- a text -/
def Zs (z : List Nat) : Nat → Src → Loc → Sto → Hp → Prop := fun i src ρ S H => src = .fix ((z.drop i).map fun c => .str [c])
theorem wk_str (z : List Nat) : WkR Γ (Its ⟨z.toArray⟩) (Zs z) where
  step := by
    rintro i src ρ S H d src' rfl m e
    obtain ⟨r, e1, rfl⟩ := next_fix e
    cases e2 : z.drop i with
    | nil =>
      rw [e2] at e1
      cases e1
    | cons c q =>
      rw [e2] at e1
      cases e1
      have hc : z[i]? = some c := by
        have : (z.drop i)[0]? = some c := by rw [e2]; rfl
        rw [List.getElem?_drop] at this
        simpa using this
      have hi : i < z.length := (List.getElem?_eq_some_iff.mp hc).1
      refine ⟨by show i < z.toArray.size; simpa using hi, fun x H' ⟨e3, c', e4, e5⟩ => ?_⟩
      subst e3
      have e4' : z[i]? = some c' := by simpa using e4
      rw [hc] at e4'
      cases e4'
      subst e5
      refine ⟨Ext.refl _ _, m, rel_str (x := [c]) (by rw [sizeLine_eq]; show 1 ≤ 16777216; omega), ?_⟩
      have : z.drop (i + 1) = q := by
        have z1 : (z.drop i).drop 1 = q := by rw [e2]; rfl
        rw [List.drop_drop] at z1
        exact z1
      unfold Zs
      rw [this]
  stop := by
    rintro i src ρ S H rfl m e
    have := next_fix_end e
    rw [List.map_eq_nil_iff] at this
    show z.toArray.size ≤ i
    simpa using List.drop_eq_nil_iff.mp this
  ext := by
    rintro i src ρ S H ρ' S' H' rfl m x m'
    rfl
/-- a range -/
def Zr (lo : Int) (k : Nat) : Nat → Src → Loc → Sto → Hp → Prop := fun i src ρ S H => i ≤ k ∧ src = .fix (rngD (lo + i) (k - i))
theorem wk_rng (lo : Int) (k : Nat) : WkR Γ (Itr lo k) (Zr lo k) where
  step := by
    rintro i src ρ S H d src' ⟨hi, rfl⟩ m e
    obtain ⟨r, e1, rfl⟩ := next_fix e
    cases e2 : k - i with
    | zero =>
      rw [e2] at e1
      cases e1
    | succ j =>
      rw [e2] at e1
      unfold rngD at e1
      cases e1
      refine ⟨by show i < k; omega, fun x H' ⟨e3, e4⟩ => ?_⟩
      subst e3
      subst e4
      refine ⟨Ext.refl _ _, m, rel_int, by omega, ?_⟩
      have e5 : k - (i + 1) = j := by omega
      rw [e5, Int.natCast_add, Int.add_assoc]
      rfl
  stop := by
    rintro i src ρ S H ⟨hi, rfl⟩ m e
    have := next_fix_end e
    show k ≤ i
    cases e2 : k - i with
    | zero => omega
    | succ j =>
      rw [e2] at this
      cases this
  ext := by
    rintro i src ρ S H ρ' S' H' ⟨hi, rfl⟩ m x m'
    exact ⟨hi, rfl⟩
/-! ### the iterators come -/
abbrev HvI (X : Cx) (Γ : Gd) (W : WX) (kp : Keep) (P : Pg) (tg e : PySem.Expr) (x : Ex) : Prop := ∀ n, PI X tg e (tI Γ W kp P n x)
def plainIt : Ex → Bool
  | .rng _ _ => false
  | .zip _ _ => false
  | .enu _ => false
  | _ => true
theorem evI_plain {P : Pg} {n : Nat} {x : Ex} {env : EnvD} {S : Sto} (h : plainIt x = true) : evI P (n + 1) x env S = (evE P n x env S).bind fun d S => R.of (Src.of d) S := by
  cases x <;> first | (cases h; done) | (unfold evI; rfl)
theorem i_zero (x : Ex) : PI X tg e (tI Γ W kp P 0 x) := ⟨fun pins s σ H Q I ⟨_, _, _, _, _, h⟩ => by
  unfold evI at h
  exact (show False from h).elim⟩
theorem i_val (hK : Γ.K = X.K) (hx : plainIt x = true) (ha : Hv X Γ W kp P a x) : HvI X Γ W kp P tg a x
  | 0 => i_zero _
  | n + 1 => ⟨fun pins s σ H QI I ⟨ρ, S, env, e, m, h⟩ => by
    rw [evI_plain hx] at h
    cases r : evE P n x env S with
    | bad =>
      rw [r] at h
      exact (show False from h).elim
    | exc c fs S1 =>
      rw [r] at h
      exact (pi_tup (ha n)).run pins s σ H QI I ⟨ρ, S, env, e, m, by rw [r]; exact h⟩
    | ok d S1 =>
      rw [r] at h
      have h : okG Γ (WE W σ) ρ H (R.of (Src.of d) S1) _ := h
      cases d with
      | tup ys =>
        refine (pi_tup (ha n)).run pins s σ H QI I ⟨ρ, S, env, e, m, ?_⟩
        rw [r]
        intro ρ1 H1 x1 m1 v rv
        obtain ⟨b, vs, rfl, h1, h2⟩ := rT_tup.mp (rel_rT rv)
        refine ⟨b, rfl, ⟨vs, by rw [← hK]; exact h1⟩, ?_⟩
        rw [← hK]
        exact h ρ1 H1 x1 m1 _ _ (wk_tup b) ⟨ys, vs, rfl, h1, h2⟩
      | lst ys =>
        refine (pi_list (ha n)).run pins s σ H QI I ⟨ρ, S, env, e, m, ?_⟩
        rw [r]
        intro ρ1 H1 x1 m1 v rv
        have rv0 := rv
        unfold Rel at rv0
        obtain ⟨b, vs, rfl, h1, h2⟩ := rv0
        exact ⟨b, rfl, ⟨vs, SqL.of h1.1⟩, h ρ1 H1 x1 m1 _ _ (wk_lst X.K b) ⟨ys, vs, rfl, .inl h1, h2⟩⟩
      | frl ys =>
        refine (pi_list (ha n)).run pins s σ H QI I ⟨ρ, S, env, e, m, ?_⟩
        rw [r]
        intro ρ1 H1 x1 m1 v rv
        obtain ⟨b, vs, o, rfl, h1, h2⟩ := rT_frl.mp (rel_rT rv)
        exact ⟨b, rfl, ⟨vs, .inl (.inr ⟨o, h1⟩)⟩, h ρ1 H1 x1 m1 _ _ (wk_lst X.K b) ⟨ys, vs, rfl, .inr ⟨o, h1⟩, h2⟩⟩
      | ref k =>
        refine (pi_list (ha n)).run pins s σ H QI I ⟨ρ, S, env, e, m, ?_⟩
        rw [r]
        intro ρ1 H1 x1 m1 v rv
        obtain ⟨b, rfl, h1⟩ := rT_ref.mp (rel_rT rv)
        obtain ⟨vs, h2⟩ := m1.named h1
        exact ⟨b, rfl, ⟨vs, SqL.of h2⟩, h ρ1 H1 x1 m1 _ _ (wk_live X.K b k) ⟨rfl, h1⟩⟩
      | str z =>
        refine (pi_str (ha n)).run pins s σ H QI I ⟨ρ, S, env, e, m, ?_⟩
        rw [r]
        intro ρ1 H1 x1 m1 v rv
        obtain ⟨rfl, _⟩ := rT_str.mp (rel_rT rv)
        exact ⟨_, rfl, h ρ1 H1 x1 m1 _ _ (wk_str z) rfl⟩
      | _ => exact (show False from h).elim⟩
end
end Ev
set_option Elab.async false
set_option linter.all false
set_option autoImplicit false
set_option maxRecDepth 100000
set_option maxHeartbeats 4000000
/-! E10: range; targets; list comprehensions. -/
namespace Ev
open PySem PySem.Spec PyProof.Rows L2 TL
section
variable {X : Cx} {Γ : Gd} {W : WX} {kp : Keep} {P : Pg} {a b c e tg : PySem.Expr} {x y z : Ex} {p pos apos cpos : Pos} {rest es : List PySem.Expr} {xs : List Ex}
variable {ρ ρ' : Loc} {S S' : Sto} {H H' : Hp} {env : EnvD} {σ : L2.St} {Q : VK} {n : Nat} {E : XK} {d : D} {v : V}
theorem i_rng2 (hg : Gl X "range") (hm : X.mg "range" = none) (ha : Hv X Γ W kp P a x) (hb : Hv X Γ W kp P b y) (hs : starEach [a, b] X.env = [(false, eval a X.env), (false, eval b X.env)]) (hs2 : starEach [b] X.env = [(false, eval b X.env)]) :
    HvI X Γ W kp P tg (.Call (.Name "range" p) [a, b] [] pos) (.rng x y)
  | 0 => i_zero _
  | n + 1 => ⟨fun pins s σ H QI I ⟨ρ, S, env, e, m, h⟩ => by
    have hA : PA X [a, b] (tCons (tE Γ W kp P n x) (tCons (tE Γ W kp P n y) tNil)) := pa_cons (ha n) (pa_cons (hb n) pa_nil hs2) (by rw [hs, hs2])
    refine (pi_range2 hg hm hA hs hs2).run pins s σ H QI I ?_
    unfold evI at h
    refine tE.mk e m h fun d1 S1 ρ1 H1 v1 x1 m1 e1 r1 h1 => tE.mk e1 m1 h1 fun d2 S2 ρ2 H2 v2 x2 m2 e2 r2 h2 => ?_
    split at h2
    · rename_i i j
      have z1 := rT_int.mp (rel_rT r1)
      have z2 := rT_int.mp (rel_rT r2)
      subst z1
      subst z2
      split at h2
      · rename_i c
        simp only [Bool.and_eq_true, decide_eq_true_eq] at c
        refine ⟨i, j, rfl, ⟨by omega, by omega, by omega, by omega⟩, ?_⟩
        refine h2.here m2 _ _ (wk_rng i (j - i).toNat) ⟨Nat.zero_le _, ?_⟩
        simp
      · exact (show False from h2).elim
    · exact (show False from h2).elim⟩
theorem i_rng1 (hg : Gl X "range") (hm : X.mg "range" = none) (hb : Hv X Γ W kp P b y) (hs2 : starEach [b] X.env = [(false, eval b X.env)]) :
    HvI X Γ W kp P tg (.Call (.Name "range" p) [b] [] pos) (.rng (.cst (.int 0)) y)
  | 0 => i_zero _
  | n + 1 => ⟨fun pins s σ H QI I ⟨ρ, S, env, e, m, h⟩ => by
    have hA : PA X [b] (tCons (tE Γ W kp P n y) tNil) := pa_cons (hb n) pa_nil hs2
    refine (pi_range1 hg hm hA hs2).run pins s σ H QI I ?_
    unfold evI at h
    have h1 := h.bind
    cases n with
    | zero =>
      unfold evE at h1
      exact (show False from h1).elim
    | succ n =>
      unfold evE at h1
      obtain ⟨_, _, h1⟩ := h1.here m
      refine tE.mk e m h1 fun d2 S2 ρ2 H2 v2 x2 m2 e2 r2 h2 => ?_
      split at h2
      · rename_i i j e4
        cases e4
        have z2 := rT_int.mp (rel_rT r2)
        subst z2
        split at h2
        · rename_i c
          simp only [Bool.and_eq_true, decide_eq_true_eq] at c
          refine ⟨j, rfl, by omega, by omega, ?_⟩
          have h3 := h2.here m2 _ _ (wk_rng 0 j.toNat) ⟨Nat.zero_le _, by simp⟩
          exact h3
        · exact (show False from h2).elim
      · exact (show False from h2).elim⟩
end
/-! ### targets -/
mutual
def tgSl : Tg → List Nat
  | .nm i => [i]
  | .tup ts => tgsSl ts
def tgsSl : List Tg → List Nat
  | [] => []
  | t :: ts => tgSl t ++ tgsSl ts
end
/-- but for these slots nothing changed -/
def SameBut (l : List Nat) (σ σ' : List (Option V)) : Prop := σ'.length = σ.length ∧ ∀ j, j ∉ l → σ'[j]? = σ[j]?
theorem SameBut.trans {l l' : List Nat} {σ σ' σ'' : List (Option V)} (h : SameBut l σ σ') (k : SameBut l' σ' σ'') : SameBut (l ++ l') σ σ'' :=
  ⟨k.1.trans h.1, fun j hj => (k.2 j fun z => hj (List.mem_append_right _ z)).trans (h.2 j fun z => hj (List.mem_append_left _ z))⟩
theorem wipe_get (σ : List (Option V)) : ∀ (vs : List Nat) (j : Nat), (L2.wipe σ vs)[j]? = if j ∈ vs then (if j < σ.length then some none else none) else σ[j]?
  | [], j => by
    rw [if_neg (by simp)]
    rfl
  | v :: vs, j => by
    unfold L2.wipe
    have ih := wipe_get σ vs j
    by_cases hj : v = j
    · subst hj
      rw [if_pos (List.mem_cons_self ..)]
      by_cases hl : v < σ.length
      · rw [if_pos hl, List.getElem?_set_self (by rw [L2.wipe_length]; exact hl)]
      · rw [if_neg hl, List.getElem?_eq_none (by rw [List.length_set, L2.wipe_length]; omega)]
    · rw [List.getElem?_set_ne hj, ih]
      by_cases hm : j ∈ vs
      · rw [if_pos hm, if_pos (List.mem_cons_of_mem _ hm)]
      · rw [if_neg hm, if_neg]
        intro z
        rcases List.mem_cons.mp z with z | z
        · exact hj z.symm
        · exact hm z
theorem SameBut.wipe {l vs : List Nat} {σ σ' : List (Option V)} (h : SameBut l σ σ') (hl : ∀ j ∈ l, j ∈ vs) : L2.wipe σ' vs = L2.wipe σ vs := by
  apply List.ext_getElem?
  intro j
  rw [wipe_get, wipe_get, h.1]
  by_cases hj : j ∈ vs
  · rw [if_pos hj, if_pos hj]
  · rw [if_neg hj, if_neg hj]
    exact h.2 j fun z => hj (hl j z)
theorem wipe_wipe (σ : List (Option V)) (vs : List Nat) : L2.wipe (L2.wipe σ vs) vs = L2.wipe σ vs := by
  apply List.ext_getElem?
  intro j
  rw [wipe_get, wipe_get, L2.wipe_length]
  by_cases hj : j ∈ vs
  · rw [if_pos hj, if_pos hj]
  · rw [if_neg hj, if_neg hj]
section
variable {X : Cx} {Γ : Gd} {kp : Keep} {tg : PySem.Expr} {pos : Pos} {es : List PySem.Expr}
def gT (Γ : Gd) (kp : Keep) (t : Tg) : TG := fun v σ H Q => ∃ ρ S env d env', EnvR Γ ρ H kp env σ ∧ Rm Γ ρ S H ∧ Rel Γ ρ H d v ∧ tgD t d env = some env' ∧ ∀ ρ' H' σ', Ext ρ H ρ' H' → Rm Γ ρ' S H' → EnvR Γ ρ' H' kp env' σ' → SameBut (tgSl t) σ σ' → Q σ' H'
def gTs (Γ : Gd) (kp : Keep) (ts : List Tg) : TGs := fun vs σ H Q => ∃ ρ S env ds env', EnvR Γ ρ H kp env σ ∧ Rm Γ ρ S H ∧ RelL Γ ρ H ds vs ∧ tgsD ts ds env = some env' ∧ ∀ ρ' H' σ', Ext ρ H ρ' H' → Rm Γ ρ' S H' → EnvR Γ ρ' H' kp env' σ' → SameBut (tgsSl ts) σ σ' → Q σ' H'
theorem g_name {i : Nat} {nm : Str} (hN : X.N.Nodup) (hi : X.N[i]? = some nm) (hx : L2.Loc X.env.scope nm) (hf : X.fn nm = true ∨ X.env.scope.names.lookup nm = some .local) (hp : ∀ q ∈ kp.sl, q.1 ≠ i) : PG X (.Name nm pos) (gT Γ kp (.nm i)) :=
  ⟨fun pins s σ H v u Q I r ⟨ρ, S, env, d, env', e, m, rd, h, q⟩ => (pg_name hN hi hx hf).run pins s σ H v u Q I r (by
    unfold tgD at h
    split at h
    · cases h
      refine q ρ H _ (Ext.refl ρ H) m (e.set rd hp) ⟨by rw [List.length_set], fun j hj => List.getElem?_set_ne fun z => hj ?_⟩
      unfold tgSl
      rw [z]
      exact List.mem_singleton.mpr rfl
    · cases h)⟩
theorem gs_nil : PGs X [] (gTs Γ kp []) := ⟨fun pins s σ H vs us Q I r ⟨ρ, S, env, ds, env', e, m, rd, h, q⟩ => pgs_nil.run pins s σ H vs us Q I r (by
  cases ds with
  | nil =>
    unfold tgsD at h
    cases h
    exact ⟨relL_nil.mp rd, q ρ H σ (Ext.refl ρ H) m e ⟨rfl, fun _ _ => rfl⟩⟩
  | cons d ds =>
    unfold tgsD at h
    cases h)⟩
theorem gs_cons {t : Tg} {ts : List Tg} {e : PySem.Expr} (h1 : PG X e (gT Γ kp t)) (h2 : PGs X es (gTs Γ kp ts)) (hs : (assignEach (e :: es) X.env).map (·.2) = assign e X.env :: (assignEach es X.env).map (·.2)) : PGs X (e :: es) (gTs Γ kp (t :: ts)) :=
  ⟨fun pins s σ H vs us Q I r ⟨ρ, S, env, ds, env', e, m, rd, h, q⟩ => (pgs_cons h1 h2 hs).run pins s σ H vs us Q I r (by
    cases ds with
    | nil =>
      unfold tgsD at h
      cases h
    | cons d ds =>
      unfold tgsD at h
      obtain ⟨env1, e1, e2⟩ := Option.bind_eq_some_iff.mp h
      obtain ⟨v, vr, rfl, r1, r2⟩ := relL_cons.mp rd
      refine ⟨v, vr, rfl, ρ, S, env, d, env1, e, m, r1, e1, fun ρ1 H1 σ1 x1 m1 ev1 sb1 => ?_⟩
      refine ⟨ρ1, S, env1, ds, env', ev1, m1, RelL.ext m x1 _ _ r2, e2, fun ρ2 H2 σ2 x2 m2 ev2 sb2 => ?_⟩
      refine q ρ2 H2 σ2 (x1.trans x2) m2 ev2 ?_
      unfold tgsSl
      exact sb1.trans sb2)⟩
theorem tgsD_len : ∀ {ts : List Tg} {ds : List D} {env env' : EnvD}, tgsD ts ds env = some env' → ts.length = ds.length
  | [], [], _, _, _ => rfl
  | [], _ :: _, _, _, h => by
    unfold tgsD at h
    cases h
  | _ :: _, [], _, _, h => by
    unfold tgsD at h
    cases h
  | t :: ts, d :: ds, env, env', h => by
    unfold tgsD at h
    obtain ⟨env1, _, e2⟩ := Option.bind_eq_some_iff.mp h
    rw [List.length_cons, List.length_cons, tgsD_len e2]
theorem g_tup {ts : List Tg} {k : Nat} (hK : Γ.K = X.K) (hc : X.calm = true) (h : PGs X es (gTs Γ kp ts)) (hn : (assignEach es X.env).length = ts.length) (hst : (assignEach es X.env).findIdx? (·.1) = none) : PG X (.Tuple es k pos) (gT Γ kp (.tup ts)) :=
  ⟨fun pins s σ H v u Q I r ⟨ρ, S, env, d, env', e, m, rd, hd, q⟩ => (pg_tup hc h hn hst).run pins s σ H v u Q I r (by
    cases d with
    | tup ds =>
      unfold tgD at hd
      obtain ⟨a, vs, rfl, h1, h2⟩ := rT_tup.mp (rel_rT rd)
      rw [hK] at h1
      refine ⟨a, vs, rfl, h1, by rw [← h2.length, tgsD_len hd], ρ, S, env, ds, env', e, m, h2, hd, ?_⟩
      unfold tgSl at q
      exact q
    | _ =>
      unfold tgD at hd
      cases hd)⟩
end
/-! ### list comprehensions -/
section
variable {X : Cx} {Γ : Gd} {W : WX} {kp : Keep} {P : Pg} {a b c e tg : PySem.Expr} {x y z : Ex} {p pos apos cpos : Pos} {rest es : List PySem.Expr} {xs : List Ex}
abbrev HvTs (X : Cx) (Γ : Gd) (W : WX) (kp : Keep) (P : Pg) (es : List PySem.Expr) (xs : List Ex) : Prop := ∀ n, PTs X es (tTs Γ W kp P n xs)
theorem ts_zero (xs : List Ex) : PTs X es (tTs Γ W kp P 0 xs) := ⟨fun pins s σ H Q I ⟨_, _, _, _, _, h⟩ => by
  unfold evTs at h
  exact (show False from h).elim⟩
theorem ts_nil : HvTs X Γ W kp P [] []
  | 0 => ts_zero _
  | n + 1 => ⟨fun pins s σ H Q I ⟨ρ, S, env, e, m, h⟩ => pts_nil.run pins s σ H Q I (by
    unfold evTs at h
    exact h.here m)⟩
theorem ts_one (h1 : HvT X Γ W kp P a x) : HvTs X Γ W kp P [a] [x]
  | 0 => ts_zero _
  | n + 1 => ⟨fun pins s σ H Q I ⟨ρ, S, env, e, m, h⟩ => (pts_one (h1 n)).run pins s σ H Q I (by
    unfold evTs at h
    exact ⟨ρ, S, env, e, m, h⟩)⟩
/-- the wish of a comprehension's block: no error -/
def W0 : WX := fun _ _ _ _ => False
theorem evL_step {P : Pg} {n : Nat} {e : Ex} {t : Tg} {ifs : List Ex} {src : Src} {i : Nat} {env : EnvD} {S : Sto} {ys : List D} {Sf : Sto} (h : evL P (n + 1) e t ifs src i env S = .ok ys Sf) :
    (src.next i S = some none ∧ ys = [] ∧ Sf = S) ∨ ∃ d src' env1 k S1, src.next i S = some (some (d, src')) ∧ tgD t d env = some env1 ∧ evTs P n ifs env1 S = .ok k S1 ∧
      ((k = true ∧ ∃ y S2 ys', evE P n e env1 S1 = .ok y S2 ∧ evL P n e t ifs src' (i + 1) env S2 = .ok ys' Sf ∧ ys = y :: ys') ∨ (k = false ∧ evL P n e t ifs src' (i + 1) env S1 = .ok ys Sf)) := by
  unfold evL at h
  split at h
  · cases h
  · rename_i e1
    cases h
    exact .inl ⟨e1, rfl, rfl⟩
  · rename_i d src' e1
    split at h
    · cases h
    · rename_i env1 e2
      cases e3 : evTs P n ifs env1 S with
      | bad =>
        rw [e3] at h
        cases h
      | exc c fs S1 =>
        rw [e3] at h
        cases h
      | ok k S1 =>
        rw [e3] at h
        simp only [R.bind] at h
        refine .inr ⟨d, src', env1, k, S1, e1, e2, e3, ?_⟩
        cases k with
        | false =>
          rw [if_neg Bool.false_ne_true] at h
          exact .inr ⟨rfl, h⟩
        | true =>
          rw [if_pos rfl] at h
          cases e4 : evE P n e env1 S1 with
          | bad =>
            rw [e4] at h
            cases h
          | exc c fs S2 =>
            rw [e4] at h
            cases h
          | ok y S2 =>
            rw [e4] at h
            simp only at h
            cases e5 : evL P n e t ifs src' (i + 1) env S2 with
            | bad =>
              rw [e5] at h
              cases h
            | exc c fs S3 =>
              rw [e5] at h
              cases h
            | ok ys' S3 =>
              rw [e5] at h
              cases h
              exact .inl ⟨rfl, y, S2, ys', rfl, e5, rfl⟩
theorem okG.noxB {α β : Type} {Γ : Gd} {E : XK} {ρ : Loc} {H : Hp} {r : R α} {f : α → Sto → R β} {K : β → Sto → Loc → Hp → Prop} (h : okG Γ E ρ H (r.nox.bind f) K) : ∃ a S, r = .ok a S ∧ okG Γ E ρ H (f a S) K := by
  cases r with
  | ok a S => exact ⟨a, S, rfl, h⟩
  | exc c fs S => exact (show False from h).elim
  | bad => exact (show False from h).elim
/-- readings at any fuel -/
def tEx (Γ : Gd) (W : WX) (kp : Keep) (P : Pg) (x : Ex) : TE := fun σ H Q => ∃ m, tE Γ W kp P m x σ H Q
def tTsx (Γ : Gd) (W : WX) (kp : Keep) (P : Pg) (xs : List Ex) : TT := fun σ H Q => ∃ m, tTs Γ W kp P m xs σ H Q
theorem Hv.ex (h : Hv X Γ W kp P a x) : PE X a (tEx Γ W kp P x) := ⟨fun pins s σ H Q I ⟨m, q⟩ => (h m).run pins s σ H Q I q⟩
theorem HvTs.ex (h : HvTs X Γ W kp P es xs) : PTs X es (tTsx Γ W kp P xs) := ⟨fun pins s σ H Q I ⟨m, q⟩ => (h m).run pins s σ H Q I q⟩
theorem lc_read {n : Nat} {e it : Ex} {t : Tg} {ifs : List Ex} {own : List Nat} (hsl : ∀ j ∈ tgSl t, j ∈ own) (hown : ∀ q ∈ kp.sl, q.1 ∉ own) {σ : L2.St} {H : Hp} {Q : VK}
    (h : tE Γ W kp P (n + 1) (.lc e t it ifs own) σ H Q) : tLc (tI Γ W kp P n it) (gT Γ kp t) (tTsx Γ W0 kp P ifs) (tEx Γ W0 kp P e) own σ H Q := by
  obtain ⟨ρ, S, env, ev, m, h⟩ := h
  unfold evE at h
  refine ⟨ρ, S, env, ev, m, h.bind.mono fun src S1 ρ1 H1 x1 m1 ⟨_, _, h1⟩ J Z wk z0 D hD => ?_⟩
  obtain ⟨ys, Sf, eL, h2⟩ := okG.noxB h1
  split at h2
  · rename_i hlen
    obtain ⟨k, hk, hkn⟩ := m1.place
    have ev1 := (ev.ext m x1).wipe own hown
    -- the invariant
    refine ⟨fun i mm H' => ∃ ρ2 S2 src2 xs0 vs0 ys2, EnvR Γ ρ2 H' kp (wipeD own env) (L2.wipe σ own) ∧ Rm Γ ρ2 S2 H' ∧ Z i src2 ρ2 S2 H' ∧ ρ2 k = some D ∧ H' D = some (.lst vs0) ∧ RelL Γ ρ2 H' xs0 vs0 ∧ Ext ρ1 H1 ρ2 H' ∧
      evL P mm e t ifs src2 i (wipeD own env) S2 = .ok ys2 Sf ∧ xs0 ++ ys2 = ys, ⟨n, nameAt ρ1 k D, S1, src, [], [], ys, ?_⟩, ?_⟩
    · have xh : Ext ρ1 H1 (nameAt ρ1 k D) (upd H1 D (.lst [])) := Ext.name hkn hD
      have mh : Rm Γ (nameAt ρ1 k D) S1 (upd H1 D (.lst [])) := m1.hide hkn hk hD
      exact ⟨ev1.ext m1 xh, mh, wk.ext z0 m1 xh.toExt0 mh, by unfold nameAt; rw [if_pos rfl], upd_same, relL_nil.mpr rfl, xh, eL, rfl⟩
    · rintro i mm H' ⟨ρ2, S2, src2, xs0, vs0, ys2, e2, m2, z2, hk2, hD2, r2, x2, el, eys⟩
      cases mm with
      | zero =>
        unfold evL at el
        cases el
      | succ mm =>
        rcases evL_step el with ⟨en, e3, e4⟩ | ⟨d, src', env1, kk, S3, en, et, ets, rest⟩
        · subst e3
          subst e4
          refine .inl ⟨wk.stop z2 m2 en, ?_⟩
          refine h2 (unname ρ2 k) H' (x2.unhide hkn) (m2.unhide hk) _ ?_
          rw [← eys, List.append_nil]
          unfold Rel
          refine ⟨D, vs0, rfl, ⟨hD2, fun q z => ?_⟩, RelL.less (unname_less hk) _ _ r2⟩
          have z1 := (unname_less hk).sub q D z
          have z2 := m2.inj q k D z1 hk2
          unfold unname at z
          rw [if_pos z2] at z
          cases z
        · obtain ⟨go, st⟩ := wk.step z2 m2 en
          refine .inr ⟨go, fun H'' => ∃ m', m' < mm + 1 ∧ ∃ ρ2 S2 src2 xs0 vs0 ys2, EnvR Γ ρ2 H'' kp (wipeD own env) (L2.wipe σ own) ∧ Rm Γ ρ2 S2 H'' ∧ Z (i + 1) src2 ρ2 S2 H'' ∧ ρ2 k = some D ∧ H'' D = some (.lst vs0) ∧ RelL Γ ρ2 H'' xs0 vs0 ∧ Ext ρ1 H1 ρ2 H'' ∧
            evL P m' e t ifs src2 (i + 1) (wipeD own env) S2 = .ok ys2 Sf ∧ xs0 ++ ys2 = ys, fun H'' q => q, fun x H'' y => ?_⟩
          obtain ⟨xy, my, ry, zy⟩ := st x H'' y
          have hDy : H'' D = some (.lst vs0) := xy.hid k D vs0 hk hk2 hD2
          refine ⟨ρ2, S2, _, d, env1, e2.ext m2 xy, my, ry, et, fun ρ3 H3 σ3 x3 m3 e3 sb => ⟨?_, ?_⟩⟩
          · rw [sb.wipe hsl, wipe_wipe]
          · refine ⟨mm, ρ3, S2, env1, e3, m3, ?_⟩
            rw [ets]
            intro ρ4 H4 x4 m4
            have hk4 : ρ4 k = some D := x4.up _ _ (x3.up _ _ hk2)
            have x14 : Ext ρ1 H1 ρ4 H4 := ((x2.trans xy).trans x3).trans x4
            have x24 : Ext ρ2 H' ρ4 H4 := (xy.trans x3).trans x4
            have hD4 : H4 D = some (.lst vs0) := x24.hid k D vs0 hk hk2 hD2
            have z4 : Z (i + 1) src' ρ4 S3 H4 := wk.ext zy my (x3.trans x4).toExt0 m4
            rcases rest with ⟨rfl, y, S4, ys', ey, el', e5⟩ | ⟨rfl, el'⟩
            · show (if _ then _ else _)
              rw [if_pos rfl]
              refine ⟨mm, ρ4, S3, env1, e3.ext m3 x4, m4, ?_⟩
              rw [ey]
              intro ρ5 H5 x5 m5 v rv
              have hk5 : ρ5 k = some D := x5.up _ _ hk4
              have x25 : Ext ρ2 H' ρ5 H5 := x24.trans x5
              have hD5 : H5 D = some (.lst vs0) := x25.hid k D vs0 hk hk2 hD2
              have r5 : RelL Γ ρ5 H5 (xs0 ++ [y]) (vs0 ++ [v]) := (RelL.ext m2 x25 _ _ r2).append (RelL.one rv)
              have xw : Ext0 ρ5 H5 ρ5 (upd H5 D (.lst (vs0 ++ [v]))) := Ext0.write hk5 hD5
              have mw : Rm Γ ρ5 S4 (upd H5 D (.lst (vs0 ++ [v]))) := m5.over hk hk5 hD5
              refine ⟨vs0, hD5, ?_, mm, Nat.lt_succ_self _, ρ5, S4, src', xs0 ++ [y], vs0 ++ [v], ys', ((e2.ext m2 x25)).ext0 m5 xw, mw, ?_, hk5, upd_same, RelL.ext0 m5 xw _ _ r5, (x14.trans x5).over hD, el', by rw [List.append_assoc, ← eys, e5]; rfl⟩
              · have : xs0.length = vs0.length := r2.length
                have e6 : ys.length = xs0.length + (ys'.length + 1) := by rw [← eys, e5, List.length_append, List.length_cons]
                rw [sizeLine_eq]
                unfold LINE at hlen
                omega
              · exact wk.ext (wk.ext z4 m4 x5.toExt0 m5) m5 xw mw
            · show (if _ then _ else _)
              rw [if_neg Bool.false_ne_true]
              exact ⟨mm, Nat.lt_succ_self _, ρ4, S3, src', xs0, vs0, ys2, e2.ext m2 x24, m4, z4, hk4, hD4, RelL.ext m2 x24 _ _ r2, x14, el', eys⟩
  · exact (show False from h2).elim
/-- [elt for tg in iter if ..] -/
theorem h_lc {elt iter : PySem.Expr} {ifs : List PySem.Expr} {scope : Scope} {own : List (Str × Nat)} {xe it : Ex} {xi : List Ex} {t : Tg} (hc : X.calm = true) (hN : X.N.Nodup) (hi : HvI X Γ W kp P tg iter it) (ok : BlkOk X.N X.env.scope scope own)
    (hg : ∀ (s : Shared) (H : Hp) (C : Addr) (cl : List (Str × Addr)) (fp : List Addr), PG (X.blk s H scope (compEnvC scope cl C X.env) fp) tg (gT Γ kp t))
    (ht : ∀ (s : Shared) (H : Hp) (C : Addr) (cl : List (Str × Addr)) (fp : List Addr), HvTs (X.blk s H scope (compEnvC scope cl C X.env) fp) Γ W0 kp P ifs xi)
    (he : ∀ (s : Shared) (H : Hp) (C : Addr) (cl : List (Str × Addr)) (fp : List Addr), Hv (X.blk s H scope (compEnvC scope cl C X.env) fp) Γ W0 kp P elt xe) (hs : ∀ x, foldedSetIterable iter X.env x = pure x)
    (hsl : ∀ j ∈ tgSl t, j ∈ own.map (·.2)) (hown : ∀ q ∈ kp.sl, q.1 ∉ own.map (·.2)) : Hv X Γ W kp P (.ListComp elt [⟨tg, iter, ifs, 0⟩] scope pos) (.lc xe t it xi (own.map (·.2)))
  | 0 => pe_zero _
  | n + 1 => ⟨fun pins s σ H Q I h => (pe_lc hc hN (hi n) ok hg (fun s H C cl fp => (ht s H C cl fp).ex) (fun s H C cl fp => (he s H C cl fp).ex) hs).run pins s σ H Q I (lc_read hsl hown h)⟩
end
end Ev
set_option Elab.async false
set_option linter.all false
set_option autoImplicit false
set_option maxRecDepth 100000
set_option maxHeartbeats 4000000
/-! E11: statements. -/
namespace Ev
open PySem PySem.Spec PyProof.Rows L2 TL
/-- the wish behind a statement's end -/
def okF (Γ : Gd) (D : Ends) (ρ : Loc) (H : Hp) (σ : List (Option V)) : Fl → Prop
  | .nx => D.nx σ H
  | .ret d => ∀ v, Rel Γ ρ H d v → D.rt v H
  | .brk => D.bk σ H
  | .cnt => D.ct σ H
def okS (Γ : Gd) (W : WX) (kp : Keep) (ρ : Loc) (H : Hp) (r : RS) (D : Ends) : Prop := match r with
  | .ok f env S => ∀ ρ' H' (σ : List (Option V)), Ext ρ H ρ' H' → Rm Γ ρ' S H' → EnvR Γ ρ' H' kp env σ → okF Γ D ρ' H' σ f
  | .exc c fs env S => ∀ ρ' H' (σ : List (Option V)) cls d, Ext ρ H ρ' H' → Rm Γ ρ' S H' → EnvR Γ ρ' H' kp env σ → XRel Γ ρ' H' c fs cls d → W cls d σ H'
  | .bad => False
section
variable {α : Type} {Γ : Gd} {W : WX} {kp : Keep} {P : Pg} {ρ ρ' : Loc} {S S' : Sto} {H H' : Hp} {env : EnvD} {σ : L2.St} {D : Ends} {n : Nat} {x : Ex}
theorem okS.ext {r : RS} (h : okS Γ W kp ρ H r D) (e : Ext ρ H ρ' H') : okS Γ W kp ρ' H' r D := by
  cases r with
  | ok f env S => exact fun ρ2 H2 σ e2 m v => h ρ2 H2 σ (e.trans e2) m v
  | exc c fs env S => exact fun ρ2 H2 σ cls d e2 m v x => h ρ2 H2 σ cls d (e.trans e2) m v x
  | bad => exact h
theorem okS.here {f : Fl} (h : okS Γ W kp ρ H (.ok f env S) D) (m : Rm Γ ρ S H) (v : EnvR Γ ρ H kp env σ) : okF Γ D ρ H σ f := h ρ H σ (Ext.refl ρ H) m v
theorem okS.at {r : R α} {f : α → Sto → RS} (e : EnvR Γ ρ H kp env σ) (m : Rm Γ ρ S H) (h : okS Γ W kp ρ H (RS.at_ r env f) D) :
    okG Γ (WE W σ) ρ H r fun a S' ρ' H' => okS Γ W kp ρ' H' (f a S') D := by
  cases r with
  | ok a S' => exact fun ρ' H' x m' => (show okS Γ W kp ρ H (f a S') D from h).ext x
  | exc c fs S' => exact fun ρ' H' cls d x m' xr => (show okS Γ W kp ρ H (.exc c fs env S') D from h) ρ' H' σ cls d x m' (e.ext m x) xr
  | bad => exact h
theorem tE.mkS {f : Ev.D → Sto → RS} {Q : VK} (e : EnvR Γ ρ H kp env σ) (m : Rm Γ ρ S H) (h : okS Γ W kp ρ H (RS.at_ (evE P n x env S) env f) D)
    (k : ∀ d S1 ρ1 H1 v, Ext ρ H ρ1 H1 → Rm Γ ρ1 S1 H1 → EnvR Γ ρ1 H1 kp env σ → Rel Γ ρ1 H1 d v → okS Γ W kp ρ1 H1 (f d S1) D → Q v H1) : tE Γ W kp P n x σ H Q :=
  ⟨ρ, S, env, e, m, (h.at e m).mono fun d S1 ρ1 H1 x1 m1 q v r => k d S1 ρ1 H1 v x1 m1 (e.ext m x1) r q⟩
theorem tT.mkS {f : Bool → Sto → RS} {Q : Bool → Hp → Prop} (e : EnvR Γ ρ H kp env σ) (m : Rm Γ ρ S H) (h : okS Γ W kp ρ H (RS.at_ (evT P n x env S) env f) D)
    (k : ∀ b S1 ρ1 H1, Ext ρ H ρ1 H1 → Rm Γ ρ1 S1 H1 → EnvR Γ ρ1 H1 kp env σ → okS Γ W kp ρ1 H1 (f b S1) D → Q b H1) : tT Γ W kp P n x σ H Q :=
  ⟨ρ, S, env, e, m, (h.at e m).mono fun d S1 ρ1 H1 x1 m1 q => k d S1 ρ1 H1 x1 m1 (e.ext m x1) q⟩
theorem tEs.mkS {xs : List Ex} {f : List Ev.D → Sto → RS} {Q : List V → Hp → Prop} (e : EnvR Γ ρ H kp env σ) (m : Rm Γ ρ S H) (h : okS Γ W kp ρ H (RS.at_ (evEs P n xs env S) env f) D)
    (k : ∀ ds S1 ρ1 H1 vs, ds.length = xs.length → Ext ρ H ρ1 H1 → Rm Γ ρ1 S1 H1 → EnvR Γ ρ1 H1 kp env σ → RelL Γ ρ1 H1 ds vs → okS Γ W kp ρ1 H1 (f ds S1) D → Q vs H1) : tEs Γ W kp P n xs σ H Q :=
  ⟨ρ, S, env, e, m, (h.at e m).len.mono fun d S1 ρ1 H1 x1 m1 ⟨l, q⟩ v r => k d S1 ρ1 H1 v l x1 m1 (e.ext m x1) r q⟩
end
section
variable (Γ : Gd) (W : WX) (kp : Keep) (P : Pg)
def tS (n : Nat) (x : Sm) : TS := fun D σ H => ∃ ρ S env, EnvR Γ ρ H kp env σ ∧ Rm Γ ρ S H ∧ okS Γ W kp ρ H (evS P n x env S) D
def tSs (n : Nat) (x : List Sm) : TS := fun D σ H => ∃ ρ S env, EnvR Γ ρ H kp env σ ∧ Rm Γ ρ S H ∧ okS Γ W kp ρ H (evSs P n x env S) D
def tSsx (x : List Sm) : TS := fun D σ H => ∃ m, tSs Γ W kp P m x D σ H
end
section
variable {X : Cx} {Γ : Gd} {W : WX} {kp : Keep} {P : Pg} {a b c e tg : PySem.Expr} {x y z : Ex} {p pos apos cpos : Pos} {rest es : List PySem.Expr} {xs : List Ex} {st : Stmt} {sts sts' : List Stmt} {s : Sm} {ss ss' : List Sm}
abbrev HvS (X : Cx) (Γ : Gd) (W : WX) (kp : Keep) (P : Pg) (st : Stmt) (s : Sm) : Prop := ∀ n, PS X st (tS Γ W kp P n s)
abbrev HvSs (X : Cx) (Γ : Gd) (W : WX) (kp : Keep) (P : Pg) (st : List Stmt) (s : List Sm) : Prop := ∀ n, PSs X st (tSs Γ W kp P n s)
theorem ps_zero (s : Sm) : PS X st (tS Γ W kp P 0 s) := ⟨fun pins s0 σ H D I ⟨_, _, _, _, _, h⟩ => by
  unfold evS at h
  exact (show False from h).elim⟩
theorem pss_zero (ss : List Sm) : PSs X sts (tSs Γ W kp P 0 ss) := ⟨fun pins s0 σ H D I ⟨_, _, _, _, _, h⟩ => by
  unfold evSs at h
  exact (show False from h).elim⟩
theorem HvS.by {t : Nat → TS} (h : ∀ n, PS X st (t n)) (k : ∀ n D σ H, tS Γ W kp P (n + 1) s D σ H → t n D σ H) : HvS X Γ W kp P st s
  | 0 => ps_zero s
  | n + 1 => ⟨fun pins s0 σ H D I q => (h n).run pins s0 σ H D I (k n D σ H q)⟩
theorem HvSs.ex (h : HvSs X Γ W kp P sts ss) : PSs X sts (tSsx Γ W kp P ss) := ⟨fun pins s0 σ H D I ⟨m, q⟩ => (h m).run pins s0 σ H D I q⟩
/-! ### blocks -/
theorem ss_nil : HvSs X Γ W kp P [] []
  | 0 => pss_zero _
  | n + 1 => ⟨fun pins s0 σ H D I ⟨ρ, S, env, e, m, h⟩ => pss_nil.run pins s0 σ H D I (by
    unfold evSs at h
    exact h.here m e)⟩
theorem ss_cons (h1 : HvS X Γ W kp P st s) (h2 : HvSs X Γ W kp P sts ss) : HvSs X Γ W kp P (st :: sts) (s :: ss)
  | 0 => pss_zero _
  | n + 1 => ⟨fun pins s0 σ H D I ⟨ρ, S, env, e, m, h⟩ => (pss_cons (h1 n) (h2 n)).run pins s0 σ H D I (by
    unfold evSs at h
    refine ⟨ρ, S, env, e, m, ?_⟩
    cases r : evS P n s env S with
    | bad =>
      rw [r] at h
      exact h
    | exc k fs env1 S1 =>
      rw [r] at h
      exact h
    | ok f env1 S1 =>
      rw [r] at h
      cases f with
      | nx => exact fun ρ1 H1 σ1 x1 m1 e1 => ⟨ρ1, S1, env1, e1, m1, (show okS Γ W kp ρ H (evSs P n ss env1 S1) D from h).ext x1⟩
      | ret d => exact h
      | brk => exact h
      | cnt => exact h)⟩
/-! ### small statements -/
theorem s_pass : HvS X Γ W kp P (.Pass pos) .pass := HvS.by (fun _ => ps_pass) fun n D σ H ⟨ρ, S, env, e, m, h⟩ => by
  unfold evS at h
  exact h.here m e
theorem s_brk : HvS X Γ W kp P (.Break pos) .brk := HvS.by (fun _ => ps_break) fun n D σ H ⟨ρ, S, env, e, m, h⟩ => by
  unfold evS at h
  exact h.here m e
theorem s_cnt : HvS X Γ W kp P (.Continue pos) .cnt := HvS.by (fun _ => ps_continue) fun n D σ H ⟨ρ, S, env, e, m, h⟩ => by
  unfold evS at h
  exact h.here m e
theorem s_doc {z : Str} {j : Nat} {p2 : Pos} : HvS X Γ W kp P (.Expr (.Constant (.str z) j pos) p2) .pass := HvS.by (fun _ => ps_doc) fun n D σ H ⟨ρ, S, env, e, m, h⟩ => by
  unfold evS at h
  exact h.here m e
theorem s_expr (ha : Hv X Γ W kp P a x) (hs : swapsWith a none pos.line X.env = pure false) : HvS X Γ W kp P (.Expr a pos) (.expr x) :=
  HvS.by (fun n => ps_expr (ha n) hs) fun n D σ H ⟨ρ, S, env, e, m, h⟩ => by
    unfold evS at h
    exact tE.mkS e m h fun d S1 ρ1 H1 v x1 m1 e1 r1 h1 => h1.here m1 e1
theorem s_ret (ha : Hv X Γ W kp P a x) : HvS X Γ W kp P (.Return (some a) pos) (.ret x) :=
  HvS.by (fun n => ps_ret (ha n)) fun n D σ H ⟨ρ, S, env, e, m, h⟩ => by
    unfold evS at h
    exact tE.mkS e m h fun d S1 ρ1 H1 v x1 m1 e1 r1 h1 => h1.here m1 e1 v r1
theorem s_retN : HvS X Γ W kp P (.Return none pos) (.ret (.cst .non)) :=
  HvS.by (fun n => ps_retN) fun n D σ H ⟨ρ, S, env, e, m, h⟩ => by
    unfold evS at h
    have h1 := h.at e m
    cases n with
    | zero =>
      unfold evE at h1
      exact (show False from h1).elim
    | succ n =>
      unfold evE at h1
      exact (h1.here m).here m e _ rel_non
theorem s_if (hc : HvT X Γ W kp P c z) (ha : HvSs X Γ W kp P sts ss) (hb : HvSs X Γ W kp P sts' ss') : HvS X Γ W kp P (.If c sts sts' pos) (.iff z ss ss') :=
  HvS.by (fun n => ps_if (hc n) (ha n) (hb n)) fun n D σ H ⟨ρ, S, env, e, m, h⟩ => by
    unfold evS at h
    refine tT.mkS e m h fun k S1 ρ1 H1 x1 m1 e1 h1 => ?_
    cases k with
    | true =>
      rw [if_pos rfl] at h1 ⊢
      exact ⟨ρ1, S1, env, e1, m1, h1⟩
    | false =>
      rw [if_neg Bool.false_ne_true] at h1 ⊢
      exact ⟨ρ1, S1, env, e1, m1, h1⟩
theorem s_asg {t : Tg} (ha : Hv X Γ W kp P a x) (hg : PG X tg (gT Γ kp t)) (hs : swapsWithSole [tg] a pos.line X.env = pure false) (hw : swappedStores [tg] a X.env = pure none) (h1 : (assignEach [tg] X.env).map (·.2) = [assign tg X.env]) :
    HvS X Γ W kp P (.Assign [tg] a pos) (.asg t x) :=
  HvS.by (fun n => ps_asg (ha n) hg hs hw h1) fun n D σ H ⟨ρ, S, env, e, m, h⟩ => by
    unfold evS at h
    refine tE.mkS e m h fun d S1 ρ1 H1 v x1 m1 e1 r1 h1 => ?_
    split at h1
    · rename_i env1 et
      exact ⟨ρ1, S1, env, d, env1, e1, m1, r1, et, fun ρ2 H2 σ2 x2 m2 e2 sb => h1 ρ2 H2 σ2 x2 m2 e2⟩
    · exact (show False from h1).elim
/-- y = [..] on one line -/
theorem s_setLc {i : Nat} {nm : Str} {py spos : Pos} {elt iter : PySem.Expr} {ifs : List PySem.Expr} {scope : Scope} {own : List (Str × Nat)} {xe it : Ex} {xi : List Ex} {t : Tg} (hc : X.calm = true) (hN : X.N.Nodup) (hy : X.N[i]? = some nm) (hyl : X.env.scope.names.lookup nm = some .local)
    (hsw : swapsWith (.ListComp elt [⟨tg, iter, ifs, 0⟩] scope pos) (some (.Name nm py)) spos.line X.env = pure true) (hp : ∀ q ∈ kp.sl, q.1 ≠ i) (hi : HvI X Γ W kp P tg iter it) (ok : BlkOk X.N X.env.scope scope own)
    (hg : ∀ (s : Shared) (H : Hp) (C : Addr) (cl : List (Str × Addr)) (fp : List Addr), PG (X.blk s H scope (compEnvC scope cl C X.env) fp) tg (gT Γ kp t))
    (ht : ∀ (s : Shared) (H : Hp) (C : Addr) (cl : List (Str × Addr)) (fp : List Addr), HvTs (X.blk s H scope (compEnvC scope cl C X.env) fp) Γ W0 kp P ifs xi)
    (he : ∀ (s : Shared) (H : Hp) (C : Addr) (cl : List (Str × Addr)) (fp : List Addr), Hv (X.blk s H scope (compEnvC scope cl C X.env) fp) Γ W0 kp P elt xe) (hs : ∀ x, foldedSetIterable iter X.env x = pure x)
    (hsl : ∀ j ∈ tgSl t, j ∈ own.map (·.2)) (hown : ∀ q ∈ kp.sl, q.1 ∉ own.map (·.2)) : HvS X Γ W kp P (.Assign [.Name nm py] (.ListComp elt [⟨tg, iter, ifs, 0⟩] scope pos) spos) (.asg (.nm i) (.lc xe t it xi (own.map (·.2))))
  | 0 => ps_zero _
  | 1 => ⟨fun pins s0 σ H D I ⟨ρ, S, env, e, m, h⟩ => by
    unfold evS at h
    have h1 := h.at e m
    unfold evE at h1
    exact (show False from h1).elim⟩
  | n + 2 => ⟨fun pins s0 σ H D I ⟨ρ, S, env, e, m, h⟩ => by
    refine (ps_setLc hc hN hy hyl hsw (hi n) ok hg (fun s H C cl fp => (ht s H C cl fp).ex) (fun s H C cl fp => (he s H C cl fp).ex) hs).run pins s0 σ H D I ?_
    refine lc_read (W := W) hsl hown ?_
    unfold evS at h
    refine tE.mkS e m h fun d S1 ρ1 H1 v x1 m1 e1 r1 h1 => ?_
    unfold tgD at h1
    split at h1
    · rename_i env1 et
      split at et
      · cases et
        exact h1 ρ1 H1 _ (Ext.refl _ _) m1 (e1.set r1 hp)
      · cases et
    · exact (show False from h1).elim⟩
theorem s_par {i j : Nat} {nx ny : Str} {px py pt : Pos} {kt k2 : Nat} {pt2 : Pos} (hc : X.calm = true) (hN : X.N.Nodup) (hi : X.N[i]? = some nx) (hj : X.N[j]? = some ny) (hij : i ≠ j)
    (hx : X.env.scope.names.lookup nx = some .local) (hy : X.env.scope.names.lookup ny = some .local) (ha : Hv X Γ W kp P a x) (hb : Hv X Γ W kp P b y)
    (hs1 : starEach [a, b] X.env = (false, eval a X.env) :: starEach [b] X.env) (hs2 : starEach [b] X.env = (false, eval b X.env) :: starEach [] X.env)
    (hpi : ∀ q ∈ kp.sl, q.1 ≠ i) (hpj : ∀ q ∈ kp.sl, q.1 ≠ j)
    (hw : swappedStores [.Tuple [.Name nx px, .Name ny py] kt pt] (.Tuple [a, b] k2 pt2) X.env = pure (some [nx, ny]))
    (hs : swapsWithSole [.Tuple [.Name nx px, .Name ny py] kt pt] (.Tuple [a, b] k2 pt2) pos.line X.env = pure false) :
    HvS X Γ W kp P (.Assign [.Tuple [.Name nx px, .Name ny py] kt pt] (.Tuple [a, b] k2 pt2) pos) (.par i j x y) :=
  HvS.by (fun n => ps_par hc hN hi hj hij hx hy (pa_cons (ha n) (pa_cons (hb n) pa_nil hs2) hs1) hw hs) fun n D σ H ⟨ρ, S, env, e, m, h⟩ => by
    unfold evS at h
    refine tE.mkS e m h fun d1 S1 ρ1 H1 v1 x1 m1 e1 r1 h1 => tE.mkS e1 m1 h1 fun d2 S2 ρ2 H2 v2 x2 m2 e2 r2 h2 => ?_
    split at h2
    · refine ⟨v1, v2, rfl, h2.here m2 ((e2.set (Rel.ext m1 x2 _ _ r1) hpi).set r2 hpj)⟩
    · exact (show False from h2).elim
theorem s_aug {i : Nat} {nm : Str} {op : Operator} {p2 : Pos} (hop : op = .Add ∨ op = .Sub) (hN : X.N.Nodup) (hi : X.N[i]? = some nm) (hx : L2.Loc X.env.scope nm) (hf : X.fn nm = true ∨ X.env.scope.names.lookup nm = some .local) (hp : ∀ q ∈ kp.sl, q.1 ≠ i) (ha : Hv X Γ W kp P a x) :
    HvS X Γ W kp P (.AugAssign (.Name nm p2) op a pos) (.aug i op x) := by
  rcases hop with rfl | rfl
  · refine HvS.by (fun n => ps_aug hN hi hx (ha n) ip_add hf) fun n D σ H ⟨ρ, S, env, e, m, h⟩ => ?_
    unfold evS at h
    simp only at h
    split at h
    · rename_i d0 z
      obtain ⟨v, z1, z2⟩ := e.get i d0 z
      refine ⟨v, z1, tE.mkS e m h fun d1 S1 ρ1 H1 v1 x1 m1 e1 r1 h1 => ?_⟩
      have z3 := Rel.ext m x1 _ _ z2
      split at h1
      · rename_i a0 b0
        exact ⟨a0, b0, rT_int.mp (rel_rT z3), rT_int.mp (rel_rT r1), h1.here m1 (e1.set rel_int hp)⟩
      · exact (show False from h1).elim
    · exact (show False from h).elim
  · refine HvS.by (fun n => ps_aug hN hi hx (ha n) ip_sub hf) fun n D σ H ⟨ρ, S, env, e, m, h⟩ => ?_
    unfold evS at h
    simp only at h
    split at h
    · rename_i d0 z
      obtain ⟨v, z1, z2⟩ := e.get i d0 z
      refine ⟨v, z1, tE.mkS e m h fun d1 S1 ρ1 H1 v1 x1 m1 e1 r1 h1 => ?_⟩
      have z3 := Rel.ext m x1 _ _ z2
      split at h1
      · rename_i a0 b0
        exact ⟨a0, b0, rT_int.mp (rel_rT z3), rT_int.mp (rel_rT r1), h1.here m1 (e1.set rel_int hp)⟩
      · exact (show False from h1).elim
    · exact (show False from h).elim
end
end Ev
set_option Elab.async false
set_option linter.all false
set_option autoImplicit false
set_option maxRecDepth 100000
set_option maxHeartbeats 4000000
/-! E12: stores in lists; loops; raise; try. -/
namespace Ev
open PySem PySem.Spec PyProof.Rows L2 TL
section
variable {X : Cx} {Γ : Gd} {W : WX} {kp : Keep} {P : Pg} {a b c e tg o i : PySem.Expr} {x y z xo xi : Ex} {p pos apos cpos tp : Pos} {rest es : List PySem.Expr} {xs : List Ex} {st : Stmt} {sts sts' : List Stmt} {s : Sm} {ss ss' : List Sm}
/-- what must be seen of a store o[i] = .. -/
abbrev SubT (X : Cx) (o i : PySem.Expr) (tp : Pos) : Prop := ∀ v, assign (.Subscript o i tp) X.env v = (do
      let ov ← holding [v] (eval o X.env)
      let iv ← holding [v, ov] (eval i X.env)
      standAt tp
      holding [v, ov, iv] (setItem ov iv v)
      release [v, ov, iv] [])
theorem ixD_set {Γ : Gd} {ρ : Loc} {H : Hp} {ds : List D} {vs : List V} (h : RelL Γ ρ H ds vs) {j : Int} {m : Nat} (e : ixD ds.length j = some m) : ixN vs.length j = some m := by
  rw [← h.length, ← ixD_eq]
  exact e
theorem s_asub (ha : Hv X Γ W kp P a x) (ho : Hv X Γ W kp P o xo) (hi : Hv X Γ W kp P i xi) (hT : SubT X o i tp) (hs : swapsWithSole [.Subscript o i tp] a pos.line X.env = pure false) (hw : swappedStores [.Subscript o i tp] a X.env = pure none)
    (h1 : (assignEach [.Subscript o i tp] X.env).map (·.2) = [assign (.Subscript o i tp) X.env]) : HvS X Γ W kp P (.Assign [.Subscript o i tp] a pos) (.asub xo xi x) :=
  HvS.by (fun n => ps_asg (ha n) (pg_sub (ho n) (hi n) set_list hT) hs hw h1) fun n D σ H ⟨ρ, S, env, e, m, h⟩ => by
    unfold evS at h
    refine tE.mkS e m h fun d S1 ρ1 H1 v x1 m1 e1 r1 h1 => tE.mkS e1 m1 h1 fun d2 S2 ρ2 H2 v2 x2 m2 e2 r2 h2 => tE.mkS e2 m2 h2 fun d3 S3 ρ3 H3 v3 x3 m3 e3 r3 h3 => ?_
    split at h3
    · rename_i k j
      split at h3
      · rename_i ys ey
        split at h3
        · rename_i mm em
          obtain ⟨b, rfl, hb⟩ := rT_ref.mp (rel_rT (Rel.ext m2 x3 _ _ r2))
          obtain ⟨b', hb', us, h4, h5⟩ := m3.at_ k _ ey
          rw [hb] at hb'
          cases hb'
          have rv := Rel.ext m2 x3 _ _ (Rel.ext m1 x2 _ _ r1)
          refine ⟨b, us, j, mm, rfl, rT_int.mp (rel_rT r3), h4, ixD_set h5 em, ?_⟩
          have xw := Ext.write (us := us.set mm v) m3 hb h4
          have mw := Rm.write m3 hb h4 (h5.set mm rv)
          exact h3 ρ3 _ _ xw mw (e3.ext m3 xw)
        · exact (show False from h3).elim
      · exact (show False from h3).elim
    · exact (show False from h3).elim
theorem s_asub2 {k : Nat} {nm : Str} {sl : Nat} {pn pt : Pos} (hK : Γ.K = X.K) (hc : X.calm = true) (hN : X.N.Nodup) (hsl : X.N[sl]? = some nm) (hx : L2.Loc X.env.scope nm) (hf : X.fn nm = true ∨ X.env.scope.names.lookup nm = some .local) (hp : ∀ q ∈ kp.sl, q.1 ≠ sl)
    (ha : Hv X Γ W kp P a x) (ho : Hv X Γ W kp P o xo) (hi : Hv X Γ W kp P i xi) (hT : SubT X o i tp) (hs : swapsWithSole [.Tuple [.Subscript o i tp, .Name nm pn] k pt] a pos.line X.env = pure false)
    (hw : swappedStores [.Tuple [.Subscript o i tp, .Name nm pn] k pt] a X.env = pure none) (h1 : (assignEach [.Tuple [.Subscript o i tp, .Name nm pn] k pt] X.env).map (·.2) = [assign (.Tuple [.Subscript o i tp, .Name nm pn] k pt) X.env]) :
    HvS X Γ W kp P (.Assign [.Tuple [.Subscript o i tp, .Name nm pn] k pt] a pos) (.asub2 xo xi sl x) :=
  HvS.by (fun n => ps_asg (ha n) (pg_tup hc (pgs_cons (pg_sub (ho n) (hi n) set_list hT) (pgs_cons (pg_name hN hsl hx hf) pgs_nil)) (n := 2)) hs hw h1) fun n D σ H ⟨ρ, S, env, e, m, h⟩ => by
    unfold evS at h
    refine tE.mkS e m h fun d S1 ρ1 H1 v x1 m1 e1 r1 h1 => ?_
    split at h1
    · rename_i d1 d2
      obtain ⟨T, us, rfl, hT2, hr⟩ := rT_tup.mp (rel_rT r1)
      obtain ⟨w1, us', rfl, ra, hr⟩ := relL_cons.mp hr
      obtain ⟨w2, us', rfl, rb, hr⟩ := relL_cons.mp hr
      obtain rfl := relL_nil.mp hr
      rw [hK] at hT2
      refine ⟨T, _, rfl, hT2, rfl, w1, _, rfl, tE.mkS e1 m1 h1 fun d2 S2 ρ2 H2 v2 x2 m2 e2 r2 h2 => tE.mkS e2 m2 h2 fun d3 S3 ρ3 H3 v3 x3 m3 e3 r3 h3 => ?_⟩
      split at h3
      · rename_i k j
        split at h3
        · rename_i ys ey
          split at h3
          · rename_i mm em
            split at h3
            · obtain ⟨b, rfl, hb⟩ := rT_ref.mp (rel_rT (Rel.ext m2 x3 _ _ r2))
              obtain ⟨b', hb', us, h4, h5⟩ := m3.at_ k _ ey
              rw [hb] at hb'
              cases hb'
              have rv := Rel.ext m2 x3 _ _ (Rel.ext m1 x2 _ _ ra)
              have rw2 := Rel.ext m2 x3 _ _ (Rel.ext m1 x2 _ _ rb)
              refine ⟨b, us, j, mm, rfl, rT_int.mp (rel_rT r3), h4, ixD_set h5 em, w2, [], rfl, rfl, ?_⟩
              have xw := Ext.write (us := us.set mm w1) m3 hb h4
              have mw := Rm.write m3 hb h4 (h5.set mm rv)
              exact h3 ρ3 _ _ xw mw ((e3.ext m3 xw).set (Rel.ext m3 xw _ _ rw2) hp)
            · exact (show False from h3).elim
          · exact (show False from h3).elim
        · exact (show False from h3).elim
      · exact (show False from h3).elim
    · exact (show False from h1).elim
/-! ### loops -/
/-- behind a loop's body: on, out, away -/
def loopF (D : Ends) (N : L2.St → Hp → Prop) : Ends := { D with nx := N, ct := N, bk := D.nx }
theorem evF_step {P : Pg} {n : Nat} {t : Tg} {b : List Sm} {src : Src} {i : Nat} {env : EnvD} {S : Sto} : evF P (n + 1) t b src i env S = (match src.next i S with
    | none => .bad
    | some none => .ok .nx env S
    | some (some (d, src)) => match tgD t d env with
      | none => .bad
      | some env => match evSs P n b env S with
        | .ok .nx env S => evF P n t b src (i + 1) env S
        | .ok .cnt env S => evF P n t b src (i + 1) env S
        | .ok .brk env S => .ok .nx env S
        | r => r) := by
  conv => lhs; unfold evF
  try rfl
theorem s_for {t : Tg} (hp : PassesOwn (model X.prog X.w) X.A X.env X.xe) (hc : X.calm = true) (hi : HvI X Γ W kp P tg a x) (hg : PG X tg (gT Γ kp t)) (hb : HvSs X Γ W kp P sts ss) (hs : ∀ x, foldedSetIterable a X.env x = pure x) :
    HvS X Γ W kp P (.For tg a sts [] pos) (.for_ t x ss) :=
  HvS.by (fun n => ps_for hp hc (hi n) hg hb.ex hs) fun n D σ H ⟨ρ, S, env, e, m, h⟩ => by
    unfold evS at h
    refine ⟨ρ, S, env, e, m, (h.at e m).mono fun src S1 ρ1 H1 x1 m1 h1 J Z wk z0 => ?_⟩
    refine ⟨fun i mm σ' H' => ∃ ρ2 S2 env2 src2, EnvR Γ ρ2 H' kp env2 σ' ∧ Rm Γ ρ2 S2 H' ∧ Z i src2 ρ2 S2 H' ∧ okS Γ W kp ρ2 H' (evF P mm t ss src2 i env2 S2) D, ⟨n, ρ1, S1, env, src, e.ext m x1, m1, z0, h1⟩, ?_⟩
    rintro i mm σ' H' ⟨ρ2, S2, env2, src2, e2, m2, z2, h2⟩
    cases mm with
    | zero =>
      unfold evF at h2
      exact (show False from h2).elim
    | succ mm =>
      rw [evF_step] at h2
      cases en : src2.next i S2 with
      | none =>
        rw [en] at h2
        exact (show False from h2).elim
      | some nx =>
        cases nx with
        | none =>
          rw [en] at h2
          exact .inl ⟨wk.stop z2 m2 en, h2.here m2 e2⟩
        | some pr =>
          obtain ⟨d, src'⟩ := pr
          rw [en] at h2
          obtain ⟨go, stp⟩ := wk.step z2 m2 en
          refine .inr ⟨go, fun σ'' H'' => ∃ m', m' < mm + 1 ∧ ∃ ρ2 S2 env2 src2, EnvR Γ ρ2 H'' kp env2 σ'' ∧ Rm Γ ρ2 S2 H'' ∧ Z (i + 1) src2 ρ2 S2 H'' ∧ okS Γ W kp ρ2 H'' (evF P m' t ss src2 (i + 1) env2 S2) D, fun σ'' H'' q => q, fun xv H'' y => ?_⟩
          obtain ⟨xy, my, ry, zy⟩ := stp xv H'' y
          simp only at h2
          cases et : tgD t d env2 with
          | none =>
            rw [et] at h2
            exact (show False from h2).elim
          | some env1 =>
            rw [et] at h2
            refine ⟨ρ2, S2, env2, d, env1, e2.ext m2 xy, my, ry, et, fun ρ3 H3 σ3 x3 m3 e3 sb => ⟨mm, ρ3, S2, env1, e3, m3, ?_⟩⟩
            have x23 := xy.trans x3
            simp only at h2
            cases r : evSs P mm ss env1 S2 with
            | bad =>
              rw [r] at h2
              exact h2
            | exc c fs env4 S4 =>
              rw [r] at h2
              exact (show okS Γ W kp ρ2 H' (.exc c fs env4 S4) D from h2).ext x23
            | ok f env4 S4 =>
              rw [r] at h2
              cases f with
              | nx => exact fun ρ4 H4 σ4 x4 m4 e4 => ⟨mm, Nat.lt_succ_self _, ρ4, S4, env4, src', e4, m4, wk.ext zy my (x3.trans x4).toExt0 m4, (show okS Γ W kp ρ2 H' (evF P mm t ss src' (i + 1) env4 S4) D from h2).ext (x23.trans x4)⟩
              | cnt => exact fun ρ4 H4 σ4 x4 m4 e4 => ⟨mm, Nat.lt_succ_self _, ρ4, S4, env4, src', e4, m4, wk.ext zy my (x3.trans x4).toExt0 m4, (show okS Γ W kp ρ2 H' (evF P mm t ss src' (i + 1) env4 S4) D from h2).ext (x23.trans x4)⟩
              | brk => exact fun ρ4 H4 σ4 x4 m4 e4 => (show okS Γ W kp ρ2 H' (.ok .nx env4 S4) D from h2) ρ4 H4 σ4 (x23.trans x4) m4 e4
              | ret dd => exact fun ρ4 H4 σ4 x4 m4 e4 => (show okS Γ W kp ρ2 H' (.ok (.ret dd) env4 S4) D from h2) ρ4 H4 σ4 (x23.trans x4) m4 e4
theorem evW_step {P : Pg} {n : Nat} {c : Ex} {b : List Sm} {env : EnvD} {S : Sto} : evW P (n + 1) c b env S = RS.at_ (evT P n c env S) env fun k S => if k = true then (match evSs P n b env S with
      | .ok .nx env S => evW P n c b env S
      | .ok .cnt env S => evW P n c b env S
      | .ok .brk env S => .ok .nx env S
      | r => r) else .ok .nx env S := by
  conv => lhs; unfold evW
  try rfl
/-- tests at any fuel -/
def tTx (Γ : Gd) (W : WX) (kp : Keep) (P : Pg) (x : Ex) : TT := fun σ H Q => ∃ m, tT Γ W kp P m x σ H Q
theorem HvT.ex (h : HvT X Γ W kp P a x) : PT X a (tTx Γ W kp P x) := ⟨fun pins s σ H Q I ⟨m, q⟩ => (h m).run pins s σ H Q I q⟩
theorem s_while (hp : PassesOwn (model X.prog X.w) X.A X.env X.xe) (hc : HvT X Γ W kp P a x) (hb : HvSs X Γ W kp P sts ss) : HvS X Γ W kp P (.While a sts [] pos) (.whl x ss) :=
  HvS.by (fun n => ps_while hp hc.ex hb.ex) fun n D σ H ⟨ρ, S, env, e, m, h⟩ => by
    unfold evS at h
    refine ⟨fun mm σ' H' => ∃ ρ2 S2 env2, EnvR Γ ρ2 H' kp env2 σ' ∧ Rm Γ ρ2 S2 H' ∧ okS Γ W kp ρ2 H' (evW P mm x ss env2 S2) D, ⟨n, ρ, S, env, e, m, h⟩, ?_⟩
    rintro mm σ' H' ⟨ρ2, S2, env2, e2, m2, h2⟩
    cases mm with
    | zero =>
      unfold evW at h2
      exact (show False from h2).elim
    | succ mm =>
      rw [evW_step] at h2
      refine ⟨mm, tT.mkS e2 m2 h2 fun k S3 ρ3 H3 x3 m3 e3 h3 => ?_⟩
      cases k with
      | false =>
        rw [if_neg Bool.false_ne_true] at h3 ⊢
        exact h3.here m3 e3
      | true =>
        rw [if_pos rfl] at h3 ⊢
        refine ⟨fun σ'' H'' => ∃ m', m' < mm + 1 ∧ ∃ ρ2 S2 env2, EnvR Γ ρ2 H'' kp env2 σ'' ∧ Rm Γ ρ2 S2 H'' ∧ okS Γ W kp ρ2 H'' (evW P m' x ss env2 S2) D, fun σ'' H'' q => q, mm, ρ3, S3, env2, e3, m3, ?_⟩
        cases r : evSs P mm ss env2 S3 with
        | bad =>
          rw [r] at h3
          exact h3
        | exc c fs env4 S4 =>
          rw [r] at h3
          exact h3
        | ok f env4 S4 =>
          rw [r] at h3
          cases f with
          | nx => exact fun ρ4 H4 σ4 x4 m4 e4 => ⟨mm, Nat.lt_succ_self _, ρ4, S4, env4, e4, m4, (show okS Γ W kp ρ3 H3 (evW P mm x ss env4 S4) D from h3).ext x4⟩
          | cnt => exact fun ρ4 H4 σ4 x4 m4 e4 => ⟨mm, Nat.lt_succ_self _, ρ4, S4, env4, e4, m4, (show okS Γ W kp ρ3 H3 (evW P mm x ss env4 S4) D from h3).ext x4⟩
          | brk => exact fun ρ4 H4 σ4 x4 m4 e4 => (show okS Γ W kp ρ3 H3 (.ok .nx env4 S4) D from h3) ρ4 H4 σ4 x4 m4 e4
          | ret dd => exact fun ρ4 H4 σ4 x4 m4 e4 => (show okS Γ W kp ρ3 H3 (.ok (.ret dd) env4 S4) D from h3) ρ4 H4 σ4 x4 m4 e4
end
end Ev
set_option Elab.async false
set_option linter.all false
set_option autoImplicit false
set_option maxRecDepth 100000
set_option maxHeartbeats 4000000
/-! E13: raise, try, what stands in an except suite. -/
namespace Ev
open PySem PySem.Spec PyProof.Rows L2 TL
section
open PySem.W PySem.Calls
variable {prog : Program} {w : World} {A : Around} {E : Value → Shared → Prop} {s : Shared} {K : Frag} {x D : Addr} {ox od : Obj}
/-- e.__class__ of a caught error with a dict of its own (after HandS.ExcIs, which tells it of errors without a dict) -/
theorem class_of_exc {Q : Option Value → Shared → Prop} (C : ExcC K D) (X : K.In s.heap) (I : InstAt s.heap x ox D (some od)) (h : Q (some (.ref D)) { s with toks := s.toks + 1 }) : wpAny (model prog w) A (getAttr? (.ref x) "__class__") Q E s := by
  have hf : findObj K D (some od) "__class__" = some (.bind (.builtin "getset_descriptor.__get__") (.builtin "object.__class__")) := findObj_data (by obtain ⟨cd, hc, _⟩ := any_some C.hd; rw [hc]; rfl) C.ha C.hn C.ht
  obtain ⟨hp, g, d, t, os⟩ := s
  have L0 := I.type (M := model prog w)
  have L1 := looks_findIn (M := model prog w) X C.hg
  have L2 := looks_findIn (M := model prog w) X C.hk
  have L3 := looks_find (M := model prog w) X I hf
  have sub : Looks (model prog w) hp (isInstance (.ref x) (.type "BaseException")) true := L0.andThen (looks_subIn X C.hs)
  have hx0 : (false && onTheHeap (Value.builtin "BaseException.__getattribute__")) = false := rfl
  have hx2 : (Value.builtin "BaseException.__getattribute__" == Value.builtin "object.__getattribute__") = false := by decide +kernel
  have hx1 : (onTheHeap (Value.ref D) && Value.builtin "BaseException.__getattribute__" == Value.builtin "object.__getattribute__") = false := by rw [hx2]; rfl
  unfold getAttr? getAttrBy? getAttrBy
  refine wpAny_bind (wpAny_mkText (wpAny_bind (wpAny_attempt (wpAny_holding (wpAny_bind (L0.at (wpAny_bind (L1.at ?_))))))))
  show wpAny _ _ (if (onTheHeap (Value.ref D) && Value.builtin "BaseException.__getattribute__" == Value.builtin "object.__getattribute__") = true then _ else _) _ _ _
  rw [hx1, if_neg Bool.false_ne_true]
  unfold getAttrByItsOwn hookBefore
  refine wpAny_bind ?_
  rw [if_pos (show onTheHeap (Value.ref D) = true from rfl)]
  refine L2.at ?_
  refine wpAny_bind (wpAny_attempt (wpAny_holding ?_))
  unfold callGetattribute
  rw [hx0, if_neg Bool.false_ne_true]
  unfold boundAndCalled
  rw [PySem.F.excAttr_ValueError.ga.bind (.ref x)]
  refine wpAny_bind (wpAny_pure ?_)
  show wpAny _ _ (call (.builtin "BaseException.__getattribute__") [.ref x, .str "__class__" t]) _ _ _
  refine wpAny_call (codeAny_call_builtin PySem.F.excAttr_ValueError.ga.plain PySem.F.entry_bexc_ga ?_)
  refine @check_slot (model prog w) _ _ ⟨hp, g, d, t + 1, os⟩ "BaseException.__getattribute__" "BaseException" "__getattribute__" (.ref x) [.str "__class__" t] [] _ (by decide +kernel) (by decide +kernel) sub (PySem.F.args_bexc_ga (.ref x) (.str "__class__" t)) ?_
  unfold Builtin.«object.__getattribute__»
  refine wpAny_bind (wpAny_of_eq (a := ((Value.ref x : Value), [Value.str "__class__" t])) (by first | rfl | (simp only [slotArgs]; rfl)) ?_)
  refine wpAny_bind (wpAny_pure (wpAny_bind (L0.at (wpAny_bind (L3.at ?_)))))
  show wpAny _ _ (holding [Value.builtin "object.__class__"] (call (.builtin "getset_descriptor.__get__") [.builtin "object.__class__", .ref x, .ref D]) >>= ret) _ _ _
  refine wpAny_bind (wpAny_holding (wpAny_call (class_get (s := ⟨hp, g, d, t + 1, os⟩) (ox := ox) (od := some od) X I C.hm ?_)))
  refine wpAny_pure ?_
  show wpAny _ _ (handedOut (.ref D)) _ _ _
  rw [handedOut_of (v := .ref D) rfl]
  first
    | exact wpAny_pure (wpAny_pure h)
    | exact wpAny_pure h
    | exact wpAny_pure (wpAny_bind (wpAny_pure (wpAny_pure h)))
theorem kitx_excD (C : ExcC K D) : KitX K (.ref x) (.ref D) (fun h => ∃ od, InstAt h x ox D (some od)) where
  ty := fun _ _ _ ⟨_, I⟩ => I.type
  it := fun _ _ X _ => by
    obtain ⟨cdD, hcD, _⟩ := any_some C.hd
    unfold clsIn at hcD
    split at hcD
    · rename_i c' d' cd' sl' ho
      intro A' Q' E' s' k q
      unfold isType loadHead
      exact wpAny_bind (wpAny_loadPart (k _ _ (X _ _ ho)) (wpAny_pure q))
    · cases hcD
  ne := (handS_kitx_exc (x := x) (ox := ox) C.hg C.hk C.hs C.hd C.ha C.hn C.ht C.hm).ne
  ca := fun X ⟨_, I⟩ k => class_of_exc C X I k
end
/-! ### the suite -/
/-- what stays in an except suite -/
def kpx (kp : Keep) (i : Nat) (a dd : Addr) (xd : List (Str × V)) (fs : List D) (vs : List V) : Keep := ⟨(i, .ref a) :: kp.sl, (dd, .xd xd) :: kp.hp, fs.zip vs ++ kp.vl⟩
/-- what is known of the classes of errors: their one field -/
structure XOk (X : Cx) (Γ : Gd) (sub : Nat → Nat → Bool) (fld : Str) : Prop where
  cf : ∀ k, Γ.cf k = [fld]
  xf : ∀ k, XfC X.K (Γ.ca k)
  no : ∀ k, PySem.W.findIn X.K (.ref (Γ.ca k)) fld = some none
  exm : ∀ k c, PySem.W.exmOne X.K (.ref (Γ.ca k)) (.ref (Γ.ca c)) = some (sub k c)
  kit : ∀ k c, PySem.W.kitOne X.K (.ref (Γ.ca k)) (.ref (Γ.ca c)) = some (sub k c)
  ecc : ∀ k, ExcC X.K (Γ.ca k)
section
variable {X : Cx} {Γ : Gd} {W : WX} {kp : Keep} {P : Pg} {a : Addr} {oe : Obj} {cls : Value} {pn : List (Addr × Obj)} {i k : Nat} {dd : Addr} {v : V} {d : D} {fld nm : Str} {p pos p1 p2 : Pos} {sub : Nat → Nat → Bool}
theorem h_exf (O : XOk X Γ sub fld) (hz : Zc (.ref (Γ.ca k)) (some dd) oe) (hf : ∃ vs, oe.data = .fields vs) (hN : X.N[i]? = some nm) (hv : Vis X.env.scope nm) (hd : (nm == ("__debug__" : Str)) = false) (hcd : (nm == ("__classdict__" : Str)) = false) :
    Hv (X.suite a ((a, oe) :: pn)) Γ W (kpx kp i a dd [(fld, v)] [d] [v]) { P with exn := some (k, [d]) } (.Attribute (.Name nm p) fld pos) (.exf 0) :=
  Hv.by (fun _ => pe_xf (X := X) (O.xf k) (O.no k) hz hf (pe_var (X := X.suite a ((a, oe) :: pn)) (i := i) hN hv hd hcd) rfl) fun n σ H Q ⟨ρ, S, env, e, m, h⟩ => by
    unfold evE at h
    simp only [List.getElem?_cons_zero] at h
    refine ⟨.ref a, e.sl (i, .ref a) (List.mem_cons_self ..), rfl, rfl, dd, [(fld, v)], v, rfl, (e.hp (dd, .xd [(fld, v)]) (List.mem_cons_self ..)).1, by simp [List.lookup], ?_⟩
    exact h.here m v (e.vl (d, v) (List.mem_cons_self ..))
theorem h_exi {c : Nat} {cn : Str} (O : XOk X Γ sub fld) (hz : Zc (.ref (Γ.ca k)) (some dd) oe) (hf : ∃ vs, oe.data = .fields vs) (hN : X.N[i]? = some nm) (hv : Vis X.env.scope nm) (hd : (nm == ("__debug__" : Str)) = false) (hcd : (nm == ("__classdict__" : Str)) = false)
    (gl : Gl X "isinstance") (hm : X.mg "isinstance" = none) (gc : Gl X cn) (hc : X.mg cn = some (.ref (Γ.ca c))) (hdb : (cn == ("__debug__" : Str)) = false) (hP : P.sub = sub) :
    Hv (X.suite a ((a, oe) :: pn)) Γ W (kpx kp i a dd [(fld, v)] [d] [v]) { P with exn := some (k, [d]) } (.Call (.Name "isinstance" p1) [.Name nm p, .Name cn p2] [] pos) (.exi c) := by
  have rule : CallR (X.suite a ((a, oe) :: pn)) (.builtin "isinstance") (fun xs H Q => xs = [.ref a, .ref (Γ.ca c)] ∧ H dd = some (.xd [(fld, v)]) ∧ Q (.bl (sub k c)) H) := by
    intro pins s σ H xs us Q I r h
    obtain ⟨rfl, hx, q⟩ := h
    obtain ⟨u1, u2, rfl, r1, r2⟩ := vals2 r
    obtain rfl : u1 = Value.ref a := r1
    obtain rfl : u2 = Value.ref (Γ.ca c) := r2
    obtain ⟨hget, _⟩ := I.pin (a, oe) (List.mem_append.mpr (.inl List.mem_cons_self))
    obtain ⟨vs, hvv⟩ := hf
    obtain ⟨mA, hns, hr⟩ := (show ObjOk X.prog X.w H s.heap dd (.xd [(fld, v)]) from I.hok dd _ hx)
    obtain ⟨od, ho, hl⟩ := lookIn_ns hns
    have J : PySem.W.InstAt s.heap a oe (Γ.ca k) (some od) := ⟨hget, hz.1, by unfold PySem.W.notCls; rw [hvv] <;> rfl, by rw [hz.2]; exact ho⟩
    exact PySem.W.kia_one (kitx_excD (x := a) (ox := oe) (O.ecc k)) I.kIn ⟨od, J⟩ (O.kit k c) (fun z => nomatch z) fun tk => ⟨.bl _, H, I.kept (t' := tk) fun _ _ z => z, rfl, q⟩
  refine Hv.by (fun _ => pe_callB (X := X.suite a ((a, oe) :: pn)) rule gl hm boot_isinstance (pa_cons (pe_var (X := X.suite a ((a, oe) :: pn)) (i := i) hN hv hd hcd) (pa_cons (pe_glob (X := X.suite a ((a, oe) :: pn)) (v := .ref (Γ.ca c)) gc hc rfl hdb) pa_nil rfl) rfl) (by decide) (by decide) rfl rfl) fun n σ H Q ⟨ρ, S, env, e, m, h⟩ => ?_
  unfold evE at h
  simp only [hP] at h
  exact ⟨.ref a, e.sl (i, .ref a) (List.mem_cons_self ..), rfl, (e.hp (dd, .xd [(fld, v)]) (List.mem_cons_self ..)).1, h.here m _ rel_bl⟩
end
/-! ### raise -/
/-- what the __init__ of such a class promises: its one argument in its one field -/
def InitSp (K : PySem.W.Frag) (fld : Str) : Sp := fun vs H Q _ => ∃ (a : Addr) (y : V) (C : Addr), vs = [.ref a, y] ∧ OexC K C ∧ PySem.W.findIn K (.ref C) fld = some none ∧ H a = some (exo a C none) ∧
  ∀ dx, H dx = none → dx ≠ a → Q .non (upd (upd H dx (exd dx [(fld, y)])) a (exo a C (some dx)))
section
variable {X : Cx} {Γ : Gd} {W : WX} {kp : Keep} {P : Pg} {e : PySem.Expr} {xs : List Ex} {fld : Str} {pos : Pos} {sub : Nat → Nat → Bool} {c : Nat}
theorem s_rai (hc : X.calm = true) (tk : Takes X W) (O : XOk X Γ sub fld) (hO : OexC X.K (Γ.ca c)) (hl : xs.length = 1) (hmk : ∀ n, PMk X e (tMkO (Γ.ca c) (InitSp X.K fld) [] (tEs Γ W kp P n xs))) : HvS X Γ W kp P (.Raise (some e) none pos) (.rai c xs) :=
  HvS.by (fun n => ps_raise hc tk (hmk n)) fun n D σ H ⟨ρ, S, env, e, m, h⟩ => by
    unfold evS at h
    refine tEs.mkS e m h fun ds S1 ρ1 H1 vs l x1 m1 e1 r1 h1 => ?_
    have hvl : vs.length = 1 := by rw [← r1.length, l, hl]
    obtain ⟨y, rfl⟩ := List.length_eq_one_iff.mp hvl
    refine ⟨by simp, fun a ha => ⟨a, y, Γ.ca c, rfl, hO, O.no c, upd_same, fun dx hdx hne => ⟨rfl, dx, [(fld, y)], upd_same, ?_, ?_, ?_⟩⟩⟩
    · rw [upd_ne hne, upd_same]
    · rw [upd_ne hne] at hdx
      exact hdx
    · have hdx' : H1 dx = none := by
        rw [upd_ne hne] at hdx
        exact hdx
      have eH : upd (del (upd (upd (upd H1 a (exo a (Γ.ca c) none)) dx (exd dx [(fld, y)])) a (exo a (Γ.ca c) (some dx))) a) dx (.xd [(fld, y)]) = upd H1 dx (.xd [(fld, y)]) := by
        funext b
        by_cases hb : b = dx
        · rw [hb, upd_same, upd_same]
        · rw [upd_ne hb, upd_ne hb]
          by_cases hba : b = a
          · rw [hba, del_same, ha]
          · rw [del_ne hba, upd_ne hba, upd_ne hb, upd_ne hba]
      rw [eH]
      have xg : Ext ρ1 H1 ρ1 (upd H1 dx (.xd [(fld, y)])) := Ext.grow hdx'
      refine h1 ρ1 _ σ (.ref (Γ.ca c)) (some dx) xg (m1.grow hdx') (e1.ext m1 xg) ⟨rfl, dx, [y], rfl, ?_, ?_, RelL.ext m1 xg _ _ r1⟩
      · rw [upd_same, O.cf c]
        rfl
      · rw [O.cf c]
        rfl
end
/-! ### try -/
section
variable {X : Cx} {Γ : Gd} {W : WX} {kp : Keep} {P : Pg} {fld nm cn : Str} {np pos pos' : Pos} {sub : Nat → Nat → Bool} {c i : Nat} {body suite : List Stmt} {b₀ : Stmt} {ss su : List Sm}
/-- the suite's reading -/
def tSu (Γ : Gd) (kp : Keep) (P : Pg) (fld : Str) (i : Nat) (su : List Sm) : Addr → Value → Option Addr → TS := fun a cls dO D σ H => ∃ k dd v d m, cls = .ref (Γ.ca k) ∧ dO = some dd ∧ tSs Γ W0 (kpx kp i a dd [(fld, v)] [d] [v]) { P with exn := some (k, [d]) } m su D σ H
theorem s_try_as (O : XOk X Γ sub fld) (hP : P.sub = sub) (hs : X.stack = X.env :: X.outer) (hf : X.env.frame = some X.env.locals) (hN : X.N.Nodup) (hi : X.N[i]? = some nm) (hln : X.env.kindOf nm = some .local) (hc : Names X cn (.ref (Γ.ca c))) (tk : Takes X W) (hpi : ∀ q ∈ kp.sl, q.1 ≠ i)
    (hb : ∀ (W : WX) (pn : List (Addr × Obj)) (xe : Value → Shared → Prop), Takes (X.tr pn xe) W → PassesOwn (model X.prog X.w) X.A X.env xe → HvSs (X.tr pn xe) Γ W kp P body ss)
    (hsu : ∀ (a : Addr) (oe : Obj) (k : Nat) (dd : Addr) (v : V) (d : D) (pn : List (Addr × Obj)), Zc (.ref (Γ.ca k)) (some dd) oe → (∃ vs, oe.data = .fields vs) → HvSs (X.suite a ((a, oe) :: pn)) Γ W0 (kpx kp i a dd [(fld, v)] [d] [v]) { P with exn := some (k, [d]) } (b₀ :: suite) su) :
    HvS X Γ W kp P (.Try body [.ExceptHandler (some (.Name cn np)) (some nm) (b₀ :: suite) pos'] [] [] pos) (.try_ ss c (some i) su) := by
  subst hP
  refine HvS.by (fun n => ps_try_as (ts := tSu Γ kp P fld i su) (tb := fun W => tSs Γ W kp P n ss) hs hf hN hi hln hc tk (fun W' pn xe t p => hb W' pn xe t p n) fun a oe cls d pn hz hd => ⟨fun pins s σ H D I ⟨k, dd, v, dv, m, e1, e2, q⟩ => ?_⟩) fun n D σ H ⟨ρ, S, env, e, m, h⟩ => ?_
  · subst e1
    subst e2
    exact (hsu a oe k dd v dv pn hz hd m).run pins s σ H D I q
  · unfold evS at h
    simp only at h
    refine ⟨ρ, S, env, e, m, ?_⟩
    cases r : evSs P n ss env S with
    | bad =>
      rw [r] at h
      exact h
    | ok f env1 S1 =>
      rw [r] at h
      exact h
    | exc k fs env1 S1 =>
      rw [r] at h
      simp only at h
      intro ρ1 H1 σ1 cls dO x1 m1 e1 xr
      obtain ⟨rfl, dd, vs, rfl, hx, hl, rl⟩ := xr
      rw [O.cf k] at hx hl
      obtain ⟨v, rfl⟩ := List.length_eq_one_iff.mp hl.symm
      have hfl : fs.length = 1 := rl.length
      obtain ⟨dv, rfl⟩ := List.length_eq_one_iff.mp hfl
      obtain ⟨v', _, ev, rv, _⟩ := relL_cons.mp rl
      cases ev
      refine ⟨P.sub k c, O.exm k c, fun hk a ha => ?_, fun hk => ?_⟩
      · rw [if_pos hk] at h
        have hsl : slotOk (some i) env1 = true := by
          cases z : slotOk (some i) env1 with
          | true => rfl
          | false =>
            rw [z, if_neg Bool.false_ne_true] at h
            exact h.elim
        rw [if_pos hsl] at h
        have hli : i < env1.length := of_decide_eq_true hsl
        refine ⟨k, dd, v, dv, n, rfl, rfl, ρ1, S1, slotD (some i) env1, ?_, m1, ?_⟩
        · have eu := e1.unset (i := i) hpi
          refine ⟨?_, fun j d0 z => ?_, fun p hp => ?_, fun p hp => ?_, fun p hp => ?_⟩
          · rw [List.length_set]
            show _ = (env1.set i none).length
            rw [List.length_set]
            exact e1.len
          · have z' : (env1.set i none)[j]? = some (some d0) := z
            by_cases hj : i = j
            · subst hj
              by_cases hlt : i < env1.length
              · rw [List.getElem?_set_self hlt] at z'
                cases z'
              · rw [List.getElem?_eq_none (by rw [List.length_set]; omega)] at z'
                cases z'
            · rw [List.getElem?_set_ne hj] at z'
              obtain ⟨w0, w1, w2⟩ := e1.get j d0 z'
              exact ⟨w0, by rw [List.getElem?_set_ne hj]; exact w1, w2⟩
          · rcases List.mem_cons.mp hp with rfl | hp
            · exact List.getElem?_set_self (by rw [e1.len]; exact hli)
            · rw [List.getElem?_set_ne (Ne.symm (hpi p hp))]
              exact e1.sl p hp
          · rcases List.mem_cons.mp hp with rfl | hp
            · exact ⟨hx, trivial, fun _ z => nomatch z⟩
            · exact e1.hp p hp
          · rcases List.mem_append.mp hp with hp | hp
            · have : p = (dv, v) := List.mem_singleton.mp hp
              rw [this]
              exact rv
            · exact e1.vl p hp
        · cases r2 : evSs { P with exn := some (k, [dv]) } n su (slotD (some i) env1) S1 with
          | bad =>
            rw [r2] at h
            exact (show False from h).elim
          | exc c2 fs2 env2 S2 =>
            rw [r2] at h
            exact (show False from h).elim
          | ok f env2 S2 =>
            rw [r2] at h
            have h : okS Γ W kp ρ H (.ok f (slotD (some i) env2) S2) D := h
            intro ρ2 H2 σ2 x2 m2 e2
            have e3 : EnvR Γ ρ2 H2 kp (env2.set i none) (σ2.set i none) := by
              have e2' : EnvR Γ ρ2 H2 kp env2 σ2 := ⟨e2.len, e2.get, fun p hp => e2.sl p (List.mem_cons_of_mem _ hp), fun p hp => e2.hp p (List.mem_cons_of_mem _ hp), fun p hp => e2.vl p (List.mem_append_right _ hp)⟩
              exact e2'.unset hpi
            have h4 := h ρ2 H2 (σ2.set i none) (x1.trans x2) m2 e3
            cases f with
            | nx => exact h4
            | ret dr => exact h4
            | brk => exact h4
            | cnt => exact h4
      · rw [if_neg (by rw [hk]; exact Bool.false_ne_true)] at h
        refine h ρ1 H1 σ1 _ _ x1 m1 e1 ⟨rfl, dd, [v], rfl, ?_, ?_, rl⟩
        · rw [O.cf k]
          exact hx
        · rw [O.cf k]
          rfl
end
end Ev
set_option Elab.async false
set_option linter.all false
set_option autoImplicit false
set_option maxRecDepth 100000
set_option maxHeartbeats 4000000
/-! E14: calls of defs. -/
namespace Ev
open PySem PySem.Spec PyProof.Rows L2 TL
/-- what a def promises, the caller's guards known where g says so -/
structure FnX (P : Program) (w : World) (K : PySem.W.Frag) (mg : Str → Option Value) (base : Heap) (g : Bool) (k : Nat) (f : Addr) (fd : FuncData) (ps : List Str) (sp : Sp) : Prop where
  len : ∀ vs H Q E, sp vs H Q E → vs.length = ps.length
  run : ∀ (A : Around) (outer : List Env) (s : Shared) (H : Hp) (args : Args) (us : List Value) (vs : List V) (Q : VK) (E : XK), Room k A → (g = true → A.guards = some []) → Env0 P w K mg base A outer s H → BindsTo s fd args (ps.zip us) → Vals vs us → sp vs H Q E →
    codeAny (model P w) A (.call (.ref f) args) (CR (L2.CX P w) outer P w H s Q E) s
theorem FnX.mono {P : Program} {w : World} {K : PySem.W.Frag} {mg : Str → Option Value} {base : Heap} {g g' : Bool} {j k : Nat} {f : Addr} {fd : FuncData} {ps : List Str} {sp : Sp} (F : FnX P w K mg base g j f fd ps sp) (h : j ≤ k) (hg : g = true → g' = true) : FnX P w K mg base g' k f fd ps sp :=
  ⟨F.len, fun A outer s H args us vs Q E hr hA => F.run A outer s H args us vs Q E (hr.mono h) fun z => hA (hg z)⟩
/-- the spec of a def: what the evaluator's call says -/
def SpD (Γ : Gd) (call : Nat → List D → Sto → R D) (f : Nat) : Sp := fun vs H Q E => ∃ ρ S ds, Rm Γ ρ S H ∧ RelL Γ ρ H ds vs ∧ okG Γ E ρ H (call f ds S) (kV' Γ Q)
/-- how a call binds: n positional values, keywords ks; p: where each parameter's value comes from -/
def permV {α : Type} (p : List Nat) (xs : List α) : Option (List α) := match p with
  | [] => some xs
  | _ => p.mapM fun i => xs[i]?
structure BndX (K : PySem.W.Frag) (fd : FuncData) (ps : List Str) (n : Nat) (ks : List Str) (p : List Nat) : Prop where
  to : ∀ (s : Shared) (us ws vs : List Value), K.In s.heap → us.length = n → ws.length = ks.length → permV p (us ++ ws) = some vs → vs.length = ps.length → BindsTo s fd ⟨us, ks.zip ws⟩ (ps.zip vs)
section
variable {X : Cx} {Γ : Gd} {W : WX} {kp : Keep} {P : Pg} {e : PySem.Expr} {es : List PySem.Expr} {kws : List Keyword} {xs ys : List Ex} {pos p : Pos} {x : Str} {g : Bool} {k : Nat} {f : Addr} {fd : FuncData} {ps ks : List Str} {fi : Nat} {pm : List Nat}
variable {ρ ρ' : Loc} {S S' : Sto} {H H' : Hp} {env : EnvD} {σ : L2.St} {Q : VK} {n : Nat} {E : XK} {d : D} {v : V}
theorem permV_rel {ds : List D} {vs : List V} (h : RelL Γ ρ H ds vs) {ds' : List D} (e : permD pm ds = some ds') : ∃ vs', permV pm vs = some vs' ∧ RelL Γ ρ H ds' vs' := by
  cases pm with
  | nil =>
    cases e
    exact ⟨vs, rfl, h⟩
  | cons i r =>
    have key : ∀ (l : List Nat) (ds' : List D), (l.mapM fun i => ds[i]?) = some ds' → ∃ vs', (l.mapM fun i => vs[i]?) = some vs' ∧ RelL Γ ρ H ds' vs' := by
      intro l
      induction l with
      | nil =>
        intro ds' e
        cases e
        exact ⟨[], rfl, relL_nil.mpr rfl⟩
      | cons i l ih =>
        intro ds' e
        rw [List.mapM_cons] at e
        obtain ⟨d, e1, e2⟩ := Option.bind_eq_some_iff.mp e
        obtain ⟨dr, e3, e4⟩ := Option.bind_eq_some_iff.mp e2
        cases e4
        obtain ⟨v, e5, r5⟩ := h.get e1
        obtain ⟨vr, e6, r6⟩ := ih dr e3
        refine ⟨v :: vr, ?_, relL_cons.mpr ⟨v, vr, rfl, r5, r6⟩⟩
        rw [List.mapM_cons, e5, e6]
        rfl
    exact key (i :: r) ds' e
theorem permV_vals {vs : List V} {us : List Value} (h : Vals vs us) {vs' : List V} (e : permV pm vs = some vs') : ∃ us', permV pm us = some us' ∧ Vals vs' us' := by
  cases pm with
  | nil =>
    cases e
    exact ⟨us, rfl, h⟩
  | cons i r =>
    have key : ∀ (l : List Nat) (vs' : List V), (l.mapM fun i => vs[i]?) = some vs' → ∃ us', (l.mapM fun i => us[i]?) = some us' ∧ Vals vs' us' := by
      intro l
      induction l with
      | nil =>
        intro vs' e
        cases e
        exact ⟨[], rfl, .nil⟩
      | cons i l ih =>
        intro vs' e
        rw [List.mapM_cons] at e
        obtain ⟨d, e1, e2⟩ := Option.bind_eq_some_iff.mp e
        obtain ⟨dr, e3, e4⟩ := Option.bind_eq_some_iff.mp e2
        cases e4
        obtain ⟨v, e5, r5⟩ := h.get e1
        obtain ⟨vr, e6, r6⟩ := ih dr e3
        refine ⟨v :: vr, ?_, .cons r5 r6⟩
        rw [List.mapM_cons, e5, e6]
        rfl
    exact key (i :: r) vs' e
/-- the callee runs -/
theorem run_fnX {sp : Sp} {pins : List (Addr × Obj)} {s : Shared} {us ws : List Value} {vs zs vs' : List V} (F : FnX X.prog X.w X.K X.mg X.base g k f fd ps sp) (hr : Room k X.A) (hA : g = true → X.A.guards = some []) (hb : BndX X.K fd ps n ks pm) (tk : Takes X W)
    (I : Inv X pins σ H s) (r : Vals vs us) (rz : Vals zs ws) (hn : vs.length = n) (hz : zs.length = ks.length) (hp : permV pm (vs ++ zs) = some vs') (h : sp vs' H Q (WE W σ)) : wpAny (model X.prog X.w) X.A (call (.ref f) us (ks.zip ws)) (EP X pins σ Q) X.xe s := by
  obtain ⟨us', e1, r1⟩ := permV_vals (r.append rz) hp
  have hl : us'.length = ps.length := by rw [← r1.length]; exact F.len _ _ _ _ h
  refine wpAny_call (codeAny_mono (F.run X.A X.stack s H ⟨us, ks.zip ws⟩ us' vs' Q (WE W σ) hr hA I.env0 (hb.to s us ws us' I.kIn (by rw [← r.length]; exact hn) (by rw [← rz.length]; exact hz) e1 hl) r1 h) fun r s' hq => ?_)
  cases r with
  | error e => exact passAt tk σ pins H s e s' I hq
  | ok fl =>
    cases fl with
    | ret u => exact I.after hq
    | next => exact False.elim hq
    | brk => exact False.elim hq
    | cont => exact False.elim hq
/-- what a call's text must show -/
structure CallT (X : Cx) (es : List PySem.Expr) (kws : List Keyword) (ks : List Str) (pos : Pos) : Prop where
  all : (backToKw pos (keywordEach kws X.env)).all (·.1.isSome) = true
  ks : (backToKw pos (keywordEach kws X.env)).filterMap (·.1) = ks
  plain : ((backTo pos (starEach es X.env)).any (·.1) || (backToKw pos (keywordEach kws X.env)).any (·.1.isNone)) = false
  star : ∀ e r, es = e :: r → starEach es X.env = (false, eval e X.env) :: starEach r X.env
/-- the keywords' values -/
abbrev HvK (X : Cx) (Γ : Gd) (W : WX) (kp : Keep) (P : Pg) (kws : List Keyword) (xs : List Ex) : Prop := ∀ n, PK X kws (tEs Γ W kp P n xs)
theorem k_nil : HvK X Γ W kp P [] []
  | 0 => ⟨fun pos pins s σ H Q I ⟨_, _, _, _, _, h⟩ => by
    unfold evEs at h
    exact (show False from h).elim⟩
  | n + 1 => ⟨fun pos pins s σ H Q I ⟨ρ, S, env, e, m, h⟩ => by
    unfold evEs at h
    exact pk_nil.run pos pins s σ H Q I (h.here m [] (relL_nil.mpr rfl))⟩
theorem k_cons {y : Ex} {nm : Option Str} {kpos : Pos} (ha : Hv X Γ W kp P e y) (hr : HvK X Γ W kp P kws ys) : HvK X Γ W kp P (⟨nm, e, kpos⟩ :: kws) (y :: ys)
  | 0 => ⟨fun pos pins s σ H Q I ⟨_, _, _, _, _, h⟩ => by
    unfold evEs at h
    exact (show False from h).elim⟩
  | n + 1 => ⟨fun pos pins s σ H Q I ⟨ρ, S, env, ee, m, h⟩ => by
    unfold evEs at h
    refine (pk_cons (ha n) (hr n)).run pos pins s σ H Q I (tE.mk ee m h fun d S1 ρ1 H1 v1 x1 m1 e1 r1 h1 => tEs.mk e1 m1 h1 fun ds S2 ρ2 H2 vs x2 m2 e2 r2 h2 => ?_)
    exact h2.here m2 _ (relL_cons.mpr ⟨v1, vs, rfl, Rel.ext m1 x2 _ _ r1, r2⟩)⟩
theorem okG.bindOk {α β : Type} {r : R α} {f : α → β} {K : β → Sto → Loc → Hp → Prop} : okG Γ E ρ H (r.bind fun a S => .ok (f a) S) K ↔ okG Γ E ρ H r fun a S ρ' H' => K (f a) S ρ' H' := by
  cases r with
  | ok a S => exact Iff.rfl
  | exc c fs S => exact Iff.rfl
  | bad => exact Iff.rfl
theorem evEs_cons {P : Pg} {n : Nat} {x : Ex} {xs : List Ex} {env : EnvD} {S : Sto} : evEs P (n + 1) (x :: xs) env S = (evE P n x env S).bind fun d S => (evEs P n xs env S).bind fun ds S => .ok (d :: ds) S := by
  conv => lhs; unfold evEs
/-- the positional values, then the keywords' -/
theorem tEs_split : ∀ (xs ys : List Ex) (n : Nat) (E : XK) (ρ : Loc) (S : Sto) (H : Hp) (env : EnvD) (K : List D → Sto → Loc → Hp → Prop), okG Γ E ρ H (evEs P n (xs ++ ys) env S) K →
    okG Γ E ρ H (evEs P n xs env S) fun ds S1 ρ1 H1 => ∃ m, okG Γ E ρ1 H1 (evEs P m ys env S1) fun es S2 ρ2 H2 => K (ds ++ es) S2 ρ2 H2
  | [], ys, 0, E, ρ, S, H, env, K, h => by
    unfold evEs at h
    exact (show False from h).elim
  | [], ys, n + 1, E, ρ, S, H, env, K, h => by
    have e1 : evEs P (n + 1) [] env S = .ok [] S := by unfold evEs; rfl
    rw [e1]
    exact fun ρ1 H1 x1 m1 => ⟨n + 1, (show okG Γ E ρ H (evEs P (n + 1) ys env S) K from h).ext x1⟩
  | x :: xs, ys, 0, E, ρ, S, H, env, K, h => by
    unfold evEs at h
    exact (show False from h).elim
  | x :: xs, ys, n + 1, E, ρ, S, H, env, K, h => by
    rw [List.cons_append, evEs_cons] at h
    rw [evEs_cons]
    cases r : evE P n x env S with
    | bad =>
      rw [r] at h
      exact h
    | exc c fs S1 =>
      rw [r] at h
      exact h
    | ok d S1 =>
      rw [r] at h
      have h := okG.bindOk.mp (show okG Γ E ρ H ((evEs P n (xs ++ ys) env S1).bind fun ds S => .ok (d :: ds) S) K from h)
      exact okG.bindOk.mpr (tEs_split xs ys n E ρ S1 H env _ h)
/-- f(e, .., k = v, ..) -/
theorem h_call {call : Nat → List D → Sto → R D} (F : FnX X.prog X.w X.K X.mg X.base g k f fd ps (SpD Γ call fi)) (hP : P.call = call) (hr : Room k X.A) (hA : g = true → X.A.guards = some []) (hg : Gl X x) (hm : X.mg x = some (.ref f)) (hk : PySem.W.keepIn X.K (.ref f) = true)
    (hb : BndX X.K fd ps xs.length ks pm) (hy : ys.length = ks.length) (tk : Takes X W) (hes : es = [] → xs = []) (ha : HvA X Γ W kp P es xs) (hkw : HvK X Γ W kp P kws ys) (T : CallT X es kws ks pos) (hdb : (x == ("__debug__" : Str)) = false) :
    Hv X Γ W kp P (.Call (.Name x p) es kws pos) (.call fi (xs ++ ys) pm)
  | 0 => pe_zero _
  | n + 1 => ⟨fun pins s σ H Q I ⟨ρ, S, env, e, m, h⟩ => by
    unfold evE at h
    have h0 := h.bind.len
    have h1 := tEs_split xs ys n _ ρ S H env _ h0
    have h2 : okG Γ (WE W σ) ρ H (evEs P n xs env S) fun ds S1 ρ1 H1 => ∀ vs, RelL Γ ρ1 H1 ds vs → vs.length = xs.length ∧ ∃ mm, tEs Γ W kp P mm ys σ H1 fun zs H2 => zs.length = ys.length ∧ ∃ vs', permV pm (vs ++ zs) = some vs' ∧ SpD Γ call fi vs' H2 Q (WE W σ) := by
      refine h1.len.mono fun ds S1 ρ1 H1 x1 m1 ⟨l1, mm, q⟩ vs rv => ⟨by rw [← rv.length, l1], mm, ρ1, S1, env, e.ext m x1, m1, q.len.mono fun es S2 ρ2 H2 x2 m2 ⟨l2, l3, q2⟩ zs rz => ⟨by rw [← rz.length, l2], ?_⟩⟩
      obtain ⟨_, _, q3⟩ := q2
      have rvz := (RelL.ext m1 x2 _ _ rv).append rz
      split at q3
      · rename_i ds' e1
        obtain ⟨vs', e2, r2⟩ := permV_rel rvz e1
        rw [hP] at q3
        exact ⟨vs', e2, ρ2, S2, ds', m2, r2, q3⟩
      · exact (show False from q3).elim
    refine wpAny_Call_Name_kw (ld_glob I hg hm ?_ hdb)
    cases es with
    | nil =>
      have ex := hes rfl
      subst ex
      have h3 : ∃ mm, tEs Γ W kp P mm ys σ H fun zs H2 => zs.length = ys.length ∧ ∃ vs', permV pm ([] ++ zs) = some vs' ∧ SpD Γ call fi vs' H2 Q (WE W σ) := by
        cases n with
        | zero =>
          unfold evEs at h2
          exact (show False from h2).elim
        | succ n =>
          unfold evEs at h2
          exact (h2.here m [] (relL_nil.mpr rfl)).2
      obtain ⟨mm, h3⟩ := h3
      refine PySem.W.callWith_KW0 (h₀ := X.base) I.ok.mod.kin hk T.all ?_ T.plain
      refine thn ((hkw mm).run pos pins s σ H _ I h3) fun ws s2 ⟨zs, H2, I2, rz, l2, vs', e2, q2⟩ => ⟨I2.kIn, ?_⟩
      rw [T.ks]
      exact run_fnX (us := []) (vs := []) F hr hA hb tk I2 .nil rz rfl (l2.trans hy) e2 q2
    | cons e0 es =>
      refine PySem.W.callWith_KW (h₀ := X.base) I.ok.mod.kin hk T.all (thn ((ha n).run pos pins s σ H _ I ⟨ρ, S, env, e, m, h2⟩) fun us s1 ⟨vs, H1, I1, r, l1, mm, q⟩ => ?_) T.plain (T.star e0 es rfl)
      refine thn ((hkw mm).run pos pins s1 σ H1 _ I1 q) fun ws s2 ⟨zs, H2, I2, rz, l2, vs', e2, q2⟩ => ⟨I2.kIn, ?_⟩
      rw [T.ks]
      exact run_fnX F hr hA hb tk I2 r rz l1 (l2.trans hy) e2 q2⟩
end
end Ev
set_option Elab.async false
set_option linter.all false
set_option autoImplicit false
set_option maxRecDepth 100000
set_option maxHeartbeats 4000000
/-! E15: a lambda without parameters handed to a def. -/
namespace Ev
open PySem PySem.Spec PyProof.Rows L2 TL
/-- the pairs of an environment -/
def pairsE : List (Option D) → List (Option V) → List (D × V)
  | some d :: r, some v :: t => (d, v) :: pairsE r t
  | _ :: r, _ :: t => pairsE r t
  | _, _ => []
section
variable {Γ : Gd} {ρ ρ' : Loc} {S S' : Sto} {H H' : Hp} {kp : Keep} {env : EnvD} {σ : L2.St}
theorem pairs_get : ∀ {env : List (Option D)} {σ : List (Option V)} {i : Nat} {d : D} {v : V}, env[i]? = some (some d) → σ[i]? = some (some v) → (d, v) ∈ pairsE env σ
  | [], _, _, _, _, h, _ => by simp at h
  | _ :: _, [], _, _, _, _, h => by simp at h
  | o :: env, q :: σ, 0, d, v, h1, h2 => by
    simp at h1 h2
    subst h1
    subst h2
    unfold pairsE
    exact List.mem_cons_self ..
  | o :: env, q :: σ, i + 1, d, v, h1, h2 => by
    have ih := pairs_get (env := env) (σ := σ) (i := i) (d := d) (v := v) (by simpa using h1) (by simpa using h2)
    cases o with
    | none =>
      unfold pairsE
      exact ih
    | some d0 =>
      cases q with
      | none =>
        unfold pairsE
        exact ih
      | some v0 =>
        unfold pairsE
        exact List.mem_cons_of_mem _ ih
theorem pairs_rel : ∀ {env : List (Option D)} {σ : List (Option V)}, (∀ (i : Nat) (d : D), env[i]? = some (some d) → ∃ v, σ[i]? = some (some v) ∧ Rel Γ ρ H d v) → ∀ p ∈ pairsE env σ, Rel Γ ρ H p.1 p.2
  | [], _, _, p, hp => by
    unfold pairsE at hp
    simp at hp
  | _ :: _, [], _, p, hp => by
    unfold pairsE at hp
    simp at hp
  | o :: env, q :: σ, h, p, hp => by
    have ih := pairs_rel (env := env) (σ := σ) fun i d z => h (i + 1) d (by simpa using z)
    cases o with
    | none =>
      unfold pairsE at hp
      exact ih p hp
    | some d0 =>
      cases q with
      | none =>
        unfold pairsE at hp
        exact ih p hp
      | some v0 =>
        unfold pairsE at hp
        rcases List.mem_cons.mp hp with e | hp
        · obtain ⟨v, e1, r⟩ := h 0 d0 rfl
          simp at e1
          subst e1
          rw [e]
          exact r
        · exact ih p hp
/-- what the lambda's maker knows, kept where it is called -/
def kpl (kp : Keep) (env : EnvD) (σ : List (Option V)) (f c' : Addr) (q : Str) : Keep := ⟨[(0, .ref f)], (c', LamX.CodeO c' q) :: kp.hp, pairsE env σ ++ kp.vl⟩
theorem kpl_back {env2 : EnvD} {σ2 : List (Option V)} {f c' : Addr} {q : Str} (h0 : EnvR Γ ρ H kp env σ) (h : EnvR Γ ρ' H' (kpl kp env σ f c' q) env2 σ2) : EnvR Γ ρ' H' kp env σ where
  len := h0.len
  get := fun i d z => by
    obtain ⟨v, e1, _⟩ := h0.get i d z
    exact ⟨v, e1, h.vl (d, v) (List.mem_append_left _ (pairs_get z e1))⟩
  sl := h0.sl
  hp := fun p hp => h.hp p (List.mem_cons_of_mem _ hp)
  vl := fun p hp => h.vl p (List.mem_append_right _ hp)
end
/-- the reading of the thunk's call -/
def tThk (Γ : Gd) (W : WX) (kp : Keep) (th : Sto → R D) : TE := fun σ H Q => ∃ ρ S env, EnvR Γ ρ H kp env σ ∧ Rm Γ ρ S H ∧ okG Γ (WE W σ) ρ H (th S) (kV' Γ Q)
section
open LamX
variable {X : Cx} {pins : List (Addr × Obj)} {σ : L2.St} {H : Hp} {s : Shared}
/-- x(), in the def that got the lambda: what it raises is wished for at that def's slots (after LamX.pe_act) -/
theorem pe_actS {Eg : XK} {Ng : List Str} {qg : Str} {sg : Scope} {g f c' : Addr} {cdg pm ctv : Value} {params : Arguments} {body : PySem.Expr} {scope : Scope} {k i : Nat} {a : Str} {pn : List (Addr × Obj)} {xe : Value → Shared → Prop} {W : WX} {tb : XK → TE} {p1 p2 : Pos}
    (I : Inv X pins σ H s) (L : LamS X.env.scope scope) (hf : s.heap.get? f = some (PySem.W.kla_obj "<lambda>" (X.env.qual ++ "<lambda>") params body scope (cloFrom X.env.cells scope.names []) pm c' ctv)) (hfn : H f = none) (hfr : f ∉ frs X.stack)
    (hbind : bindArgs (PySem.W.kla_fn "<lambda>" (X.env.qual ++ "<lambda>") params body scope (cloFrom X.env.cells scope.names []) pm (.ref c') ctv) ⟨[], []⟩ = pure [])
    (tk : Takes ((cxOf (L2.CX X.prog X.w) X.prog X.w X.K X.mg X.base Ng qg sg g cdg X.A X.stack s H Eg).tr pn xe) W) (hr : Room (k + 1) (X.A.deeper (envOfC qg sg s.heap.objs.size g cdg)))
    (hbody : ∀ (outer : List Env) (s1 : Shared) (H : Hp) (E : XK), Room k ((X.A.deeper (envOfC qg sg s.heap.objs.size g cdg)).deeper (lamEnv X scope s1.heap.objs.size f c')) → PE (lamCx X (X.A.deeper (envOfC qg sg s.heap.objs.size g cdg)) outer s1 H E scope f c') body (tb E))
    (hN : Ng[i]? = some a) (hv : Vis sg a) (hd : (a == ("__debug__" : Str)) = false) (hcd : (a == ("__classdict__" : Str)) = false) :
    PE ((cxOf (L2.CX X.prog X.w) X.prog X.w X.K X.mg X.base Ng qg sg g cdg X.A X.stack s H Eg).tr pn xe) (.Call (.Name a p1) [] [] p2)
      (fun σZ HZ Q => σZ[i]? = some (some (.ref f)) ∧ HZ c' = some (CodeO c' (X.env.qual ++ "<lambda>")) ∧ tb (WE W σZ) σ HZ Q) := by
  refine ⟨fun pinsZ sZ σZ HZ Q IZ h => ?_⟩
  obtain ⟨hs, hc, ht⟩ := h
  refine wpAny_Call_Name_kw (thn ((pe_var (pos := p1) (i := i) hN hv hd hcd).run pinsZ sZ σZ HZ (fun v H1 => v = .ref f ∧ H1 = HZ) IZ ⟨.ref f, hs, rfl, rfl⟩) fun u s1 ⟨v, H1, I1, r1, q1⟩ => ?_)
  obtain ⟨ev, eH⟩ := q1
  subst ev
  rw [eH] at I1
  obtain rfl : u = Value.ref f := r1
  have of1 : s1.heap.get? f = some (PySem.W.kla_obj "<lambda>" (X.env.qual ++ "<lambda>") params body scope (cloFrom X.env.cells scope.names []) pm c' ctv) := I1.base.keep f _ hf hfn hfr (fun z => nomatch (show f ∈ ([] : List Addr) from z))
  refine PySem.W.callWith_F0 ⟨_, _, _, _, of1⟩ ?_
  have un : Un (frs X.stack) [] H HZ s.heap s1.heap := I1.base
  obtain ⟨⟨oc, vs, t, hoc, hdc, hvc⟩, _, _⟩ := I1.hok c' _ hc
  have rc : codeAny (model X.prog X.w) (X.A.deeper (envOfC qg sg s.heap.objs.size g cdg)) (.call (.ref f) ⟨[], []⟩) (CR (L2.CX X.prog X.w) (envOfC qg sg s.heap.objs.size g cdg :: X.stack) X.prog X.w HZ s1 Q (WE W σZ)) s1 := by
    refine PySem.W.kla_callFunE hr.depth of1 rfl L.co L.gen rfl ⟨c', oc, vs, t, rfl, hoc, hdc, hvc⟩ ?_
    rw [hbind]
    refine wpAny_pure (wpAny_newFunctionEnv (fun y hy => (L.own y hy).2) (fun y hy => absurd hy (by simp)) (fun h₁ hns hsb => ⟨I1.nolimit.fresh _ hsb, ?_⟩) L.kind)
    show codeAny _ _ (.expr body (lamEnv X scope s1.heap.objs.size f c')) _ _
    have kp : ∀ b o, s1.heap.get? b = some o → h₁.get? b = some o := fun b o e => hsb.extBut b o (Nat.ne_of_lt (Heap.lt_size e)) (Heap.get?_push_of_some _ e)
    have J : Inv (lamCx X (X.A.deeper (envOfC qg sg s.heap.objs.size g cdg)) (envOfC qg sg s.heap.objs.size g cdg :: X.stack) s1 HZ (WE W σZ) scope f c') [] σ HZ { s1 with heap := h₁, toks := s1.toks + ([] : List (Str × Value)).length } :=
      lam_start2 I L I1.env0 hr.hd un hns kp
    refine PySem.W.kla_codeExpr (wpAny_mono ((hbody _ s1 HZ (WE W σZ) (hr.deeper _)).run [] _ _ HZ Q J ht) (fun v s' hq => ?_) fun e s' hq => hq)
    obtain ⟨w', H', J', rv, q⟩ := hq
    exact ⟨w', H', J'.os, J'.bare, J'.base, J'.hok, rv, q⟩
  refine wpAny_call (codeAny_mono rc fun r s' hq => ?_)
  cases r with
  | error e => exact passAt tk σZ pinsZ HZ s1 e s' I1 hq
  | ok fl =>
    cases fl with
    | ret u => exact I1.after hq
    | next => exact False.elim hq
    | brk => exact False.elim hq
    | cont => exact False.elim hq
/-- x(lambda: body) (after LamX.pe_lamcall) -/
theorem h_lam {Γ : Gd} {W : WX} {kp : Keep} {P : Pg} {b : Ex} {x a : Str} {g c Pt : Addr} {k fi : Nat} {pg : Arguments} {bg : List Stmt} {sg : Scope} {dV kV doc pm cdv ct oc : Value} {an od : Option Addr} {osl : Array (Option Value)} {Ng : List Str}
    {params : Arguments} {body : PySem.Expr} {scope : Scope} {p lpos pos : Pos} (hg : Gl X x) (hm : X.mg x = some (.ref g)) (hk : PySem.W.keepIn X.K (.ref g) = true)
    (lk : X.K.lookup g = some ⟨oc, od, .func (PySem.W.fnOf x x pg bg sg dV kV doc pm an cdv ct), osl⟩) (hcg : PySem.W.codeIn X.K cdv x = true) (hb : L2.Binds X.K (PySem.W.fnOf x x pg bg sg dV kV doc pm an cdv ct) [a] []) (Sg : FnScope Ng [a] sg) (hNg : Ng[0]? = some a) (hva : Vis sg a)
    (tk : Takes X W) (TB : TabB X.base X.mg c Pt) (hcode : X.env.code = .ref c) (hmT : (Pt, X.env.qual ++ "<lambda>") ∈ Γ.T) (hu : ∀ p ∈ Γ.T, p.1 = Pt → p.2 = X.env.qual ++ "<lambda>") (hr : Room (k + 2) X.A) (L : LamS X.env.scope scope) (hdef : defaultsOf params X.env = ([], []))
    (hbind : ∀ (q : Str) (cl : List (Str × Addr)) (pm cv ctv : Value), bindArgs (PySem.W.kla_fn "<lambda>" q params body scope cl pm cv ctv) ⟨[], []⟩ = pure [])
    (hbody : ∀ (env : Env) (outer : List Env) (s : Shared) (H : Hp) (E : XK) (f c' : Addr), Room k ((X.A.deeper env).deeper (lamEnv X scope s.heap.objs.size f c')) → Hv (lamCx X (X.A.deeper env) outer s H E scope f c') Γ (fun cls d _ H => E cls d H) kp P body b)
    (hgive : ∀ (s : Shared) (H : Hp) (f c' : Addr) (E : XK) (Q : VK) (th : Sto → R D) (kpf : Keep) (ρ : Loc) (S : Sto), kpf.sl = [(0, .ref f)] →
      (∀ (W' : WX) (pn : List (Addr × Obj)) (xe : Value → Shared → Prop) (p1 p2 : Pos), Takes ((cxOf (L2.CX X.prog X.w) X.prog X.w X.K X.mg X.base Ng x sg g cdv X.A X.stack s H E).tr pn xe) W' →
        PE ((cxOf (L2.CX X.prog X.w) X.prog X.w X.K X.mg X.base Ng x sg g cdv X.A X.stack s H E).tr pn xe) (.Call (.Name a p1) [] [] p2) (tThk Γ W' kpf th)) →
      Room (k + 1) (X.A.deeper (envOfC x sg s.heap.objs.size g cdv)) → Rm Γ ρ S H → (∀ p ∈ kpf.hp, H p.1 = some p.2 ∧ Still p.2 ∧ ∀ vs, p.2 ≠ .lst vs) → (∀ p ∈ kpf.vl, Rel Γ ρ H p.1 p.2) → okG Γ E ρ H (P.lam fi th S) (kV' Γ Q) →
      ∃ t, PSs (cxOf (L2.CX X.prog X.w) X.prog X.w X.K X.mg X.base Ng x sg g cdv X.A X.stack s H E) bg t ∧ t { nx := fun _ H' => Q .non H', rt := Q } (L2.start Ng [.ref f]) H)
    (hdb : (x == ("__debug__" : Str)) = false) (hd : (a == ("__debug__" : Str)) = false) (hcd : (a == ("__classdict__" : Str)) = false) :
    Hv X Γ W kp P (.Call (.Name x p) [.Lambda params body scope lpos] [] pos) (.lam fi b)
  | 0 => pe_zero _
  | n + 1 => ⟨fun pins s σ H Q I ⟨ρ, S, env, e, m, h⟩ => by
    unfold evE at h
    refine wpAny_Call_Name_kw (ld_glob I hg hm ?_ hdb)
    refine PySem.W.callWith_K (h₀ := X.base) I.ok.mod.kin hk ?_ (by rfl) (by rfl)
    show wpAny _ _ (spliced ((false, eval (.Lambda params body scope lpos) X.env) :: backTo pos (starEach [] X.env))) _ _ s
    refine Calls.spliced_cons (lam_make2 I TB hcode hmT hu m.tab hdef (L.has I.ok) fun f c' pm' ctv H1 s' I1 eN T1 hf hfn hfr hco => ?_)
    refine Calls.spliced_nil ⟨I1.kIn, ?_⟩
    have xN : Ext ρ H ρ H1 := Ext.ofN eN
    have m1 := m.ofN eN T1
    have e1 := e.ext m xN
    have rc : codeAny (model X.prog X.w) X.A (.call (.ref g) ⟨[.ref f], []⟩) (CR (L2.CX X.prog X.w) X.stack X.prog X.w H1 s' Q (WE W σ)) s' := by
      refine run_ofS (N := Ng) (ps := [a]) (us := [.ref f]) (vs := [.ref f]) lk hcg Sg hr I1.env0 (hb s' [.ref f] I1.kIn rfl) (.cons rfl .nil) rfl fun hr' => ?_
      refine hgive s' H1 f c' (WE W σ) Q (fun S => evE P n b env S) (kpl kp env σ f c' (X.env.qual ++ "<lambda>")) ρ S rfl (fun W' pn xe p1 p2 tk' => ?_) hr' m1 (fun p hp => ?_) (fun p hp => ?_) (h.ext xN)
      · refine ⟨fun pinsZ sZ σZ HZ QZ IZ ⟨ρ2, S2, env2, e2, m2, h2⟩ => ?_⟩
        refine (pe_actS (i := 0) (tb := fun E => tEx Γ (fun cls d _ H => E cls d H) kp P b) I1 L hf hfn hfr (hbind _ _ _ _ _) tk' hr' (fun outer s1 H E hr2 => (hbody _ outer s1 H E f c' hr2).ex) hNg hva hd hcd).run pinsZ sZ σZ HZ QZ IZ ?_
        exact ⟨e2.sl (0, .ref f) (List.mem_cons_self ..), (e2.hp (c', CodeO c' _) (List.mem_cons_self ..)).1, n, ρ2, S2, env, kpl_back e1 e2, m2, h2⟩
      · rcases List.mem_cons.mp hp with rfl | hp
        · exact ⟨hco, trivial, fun _ z => nomatch z⟩
        · exact e1.hp p hp
      · rcases List.mem_append.mp hp with hp | hp
        · exact pairs_rel e1.get p hp
        · exact e1.vl p hp
    refine wpAny_call (codeAny_mono rc fun r s2 hq => ?_)
    cases r with
    | error er => exact passAt tk σ pins H1 s' er s2 I1 hq
    | ok fl =>
      cases fl with
      | ret u => exact I1.after hq
      | next => exact False.elim hq
      | brk => exact False.elim hq
      | cont => exact False.elim hq⟩
end
end Ev
set_option Elab.async false
set_option linter.all false
set_option autoImplicit false
set_option maxRecDepth 100000
set_option maxHeartbeats 4000000
/-! E16: the thunk's call; dict displays of constants. -/
namespace Ev
open PySem PySem.Spec PyProof.Rows L2 TL
section
variable {X : Cx} {Γ : Gd} {W : WX} {kp : Keep} {P : Pg} {e : PySem.Expr} {pos p1 p2 : Pos} {a : Str}
theorem h_thk (h : PE X e (tThk Γ W kp P.thk)) : Hv X Γ W kp P e .thk := Hv.by (fun _ => h) fun n σ H Q ⟨ρ, S, env, e, m, h⟩ => by
  unfold evE at h
  exact ⟨ρ, S, env, e, m, h⟩
/-- the pairs of a display of constants -/
inductive DP (X : Cx) (Γ : Gd) : List (Option PySem.Expr) → List PySem.Expr → List D → List D → List (Key × V) → Prop
  | nil : DP X Γ [] [] [] [] []
  | cons {k v : PySem.Expr} {ks : List (Option PySem.Expr)} {vs : List PySem.Expr} {kd vd : D} {kds vds : List D} {z : Key} {u : V} {kvs : List (Key × V)} (hk : PE X k (tC (kV z))) (hv : PE X v (tC u)) (ek : keyD kd = some z) (rv : ∀ ρ H, Rel Γ ρ H vd u) (r : DP X Γ ks vs kds vds kvs) :
      DP X Γ (some k :: ks) (v :: vs) (kd :: kds) (vd :: vds) ((z, u) :: kvs)
def trsOf : List (Key × V) → List (TE × TE)
  | [] => []
  | (z, u) :: r => (tC (kV z), tC u) :: trsOf r
theorem DP.pps {ks : List (Option PySem.Expr)} {vs : List PySem.Expr} {kds vds : List D} {kvs : List (Key × V)} (h : DP X Γ ks vs kds vds kvs) : PPs X pos ks vs (trsOf kvs) := by
  induction h with
  | nil => exact pps_nil
  | cons hk hv ek rv r ih => exact pps_cons hk hv ih
theorem DP.keys {ks : List (Option PySem.Expr)} {vs : List PySem.Expr} {kds vds : List D} {kvs : List (Key × V)} (h : DP X Γ ks vs kds vds kvs) : kds.map keyD = kvs.map (fun p => some p.1) := by
  induction h with
  | nil => rfl
  | cons hk hv ek rv r ih => rw [List.map_cons, List.map_cons, ek, ih]
theorem DP.vals {ks : List (Option PySem.Expr)} {vs : List PySem.Expr} {kds vds : List D} {kvs : List (Key × V)} (h : DP X Γ ks vs kds vds kvs) (ρ : Loc) (H : Hp) : RelL Γ ρ H vds (kvs.map (·.2)) := by
  induction h with
  | nil => exact relL_nil.mpr rfl
  | cons hk hv ek rv r ih => exact relL_cons.mpr ⟨_, _, rfl, rv ρ H, ih⟩
theorem DP.len {ks : List (Option PySem.Expr)} {vs : List PySem.Expr} {kds vds : List D} {kvs : List (Key × V)} (h : DP X Γ ks vs kds vds kvs) : ks.length = vs.length ∧ kvs.length = ks.length ∧ ks.all (·.isSome) = true := by
  induction h with
  | nil => exact ⟨rfl, rfl, rfl⟩
  | cons hk hv ek rv r ih => exact ⟨by rw [List.length_cons, List.length_cons, ih.1], by rw [List.length_cons, List.length_cons, ih.2.1], by rw [List.all_cons, ih.2.2]; rfl⟩
theorem tPairs_const : ∀ (kvs : List (Key × V)) (σ : L2.St) (H : Hp) (K : List (V × V) → Hp → Prop), K (kvs.map fun kv => (kV kv.1, kv.2)) H → tPairs (trsOf kvs) σ H K
  | [], σ, H, K, h => h
  | (z, u) :: r, σ, H, K, h => by
    show tPairs (trsOf r) σ H fun ps H3 => K ((kV z, u) :: ps) H3
    exact tPairs_const r σ H _ h
theorem merge_nd : ∀ (more kvs : List (Key × V)), ((kvs ++ more).map (·.1)).Nodup → mergeK kvs more = kvs ++ more
  | [], kvs, _ => by
    rw [List.append_nil]
    rfl
  | (z, u) :: r, kvs, h => by
    show mergeK (putK kvs z u) r = _
    have hz : valV kvs z = none := by
      cases e : valV kvs z with
      | none => rfl
      | some w =>
        have hm := valV_in e
        rw [List.map_append, List.nodup_append] at h
        exact absurd rfl (h.2.2 z hm z (by simp))
    rw [putK_new u hz, merge_nd r (kvs ++ [(z, u)]) (by simpa using h), List.append_assoc]
    rfl
theorem h_dic {keys : List (Option PySem.Expr)} {values : List PySem.Expr} {kds vds : List D} {kvs : List (Key × V)} (h : DP X Γ keys values kds vds kvs) (h0 : keys ≠ []) (h15 : keys.length ≤ 15) (nd : (kds.map keyD).Nodup) : Hv X Γ W kp P (.Dict keys values pos) (.dic kds vds) :=
  Hv.by (fun _ => pe_disp h.pps h.len.2.2 h.len.1 h0 h15) fun n σ H Q ⟨ρ, S, env, e, m, hh⟩ => by
    unfold evE at hh
    intro p hp
    refine tPairs_const kvs σ _ _ ⟨upd_same, kvs, rfl, by rw [h.len.2.1]; exact h15, ?_⟩
    have nd' : (kvs.map (·.1)).Nodup := by
      have e1 : kds.map keyD = (kvs.map (·.1)).map some := by rw [h.keys, List.map_map]; rfl
      rw [e1] at nd
      exact (List.pairwise_map.mp nd).imp fun h e => h (by rw [e])
    rw [merge_nd kvs [] (by simpa using nd')]
    have eu : upd (upd H p (.dK [])) p (.dK ([] ++ kvs)) = upd H p (.dK kvs) := by
      funext b
      by_cases hb : b = p
      · rw [hb, upd_same, upd_same]
        rfl
      · rw [upd_ne hb, upd_ne hb, upd_ne hb]
    rw [eu]
    refine hh ρ _ (Ext.grow hp) (m.grow hp) _ ?_
    unfold Rel
    exact ⟨p, kvs, rfl, ⟨upd_same, m.fresh hp⟩, h.keys, h.vals ρ _⟩
end
end Ev
set_option Elab.async false
set_option linter.all false
set_option autoImplicit false
set_option maxRecDepth 100000
set_option maxHeartbeats 4000000
/-! E17: comparisons as tests; plain facts of the text; the translation to the IR. -/
namespace Ev
open PySem PySem.Spec PyProof.Rows L2 TL
section
variable {X : Cx} {Γ : Gd} {W : WX} {kp : Keep} {P : Pg} {a b c e : PySem.Expr} {x y z : Ex} {pos : Pos} {ρ : Loc} {S : Sto} {H : Hp}
theorem cmpD_bl {o : CmpOp} {a b d : D} (h : cmpD o a b = some d) : ∃ k, d = .bl k := by
  unfold cmpD at h
  cases o with
  | Eq =>
    obtain ⟨k, _, e⟩ := Option.map_eq_some_iff.mp (show (deq a b).map (fun b => D.bl b) = some d from h)
    exact ⟨k, e.symm⟩
  | NotEq =>
    obtain ⟨k, _, e⟩ := Option.map_eq_some_iff.mp (show (deq a b).map (fun b => D.bl (!b)) = some d from h)
    exact ⟨!k, e.symm⟩
  | In =>
    obtain ⟨k, _, e⟩ := Option.map_eq_some_iff.mp (show (inO a b).map (fun b => D.bl b) = some d from h)
    exact ⟨k, e.symm⟩
  | NotIn =>
    obtain ⟨k, _, e⟩ := Option.map_eq_some_iff.mp (show (inO a b).map (fun b => D.bl (!b)) = some d from h)
    exact ⟨!k, e.symm⟩
  | _ =>
    simp only at h
    split at h <;> first | (cases h; exact ⟨_, rfl⟩) | cases h
theorem bl_truth {k k' : Bool} {S : Sto} (h : ((D.bl k).look S).truth = some k') : k' = k := by
  cases h
  rfl
theorem t_cmp (C : Cmp3 X Γ) {o : CmpOp} (hm : behindInMarks o b = false) (ha : Hv X Γ W kp P a x) (hb : Hv X Γ W kp P b y) : HvT X Γ W kp P (.Compare a [o] [b] pos) (.cmp o x y)
  | 0 => pt_zero _
  | 1 => ⟨fun pins s σ H Q I ⟨ρ, S, env, e, m, h⟩ => by
    rw [evT_plain rfl] at h
    unfold evE at h
    exact (show False from h).elim⟩
  | n + 2 => ⟨fun pins s σ H Q I ⟨ρ, S, env, e, m, h⟩ => by
    refine (pt_cmpR (cmp_ok C.K C.w C.hu o) (ha n) (hb n) hm).run pins s σ H Q I ?_
    rw [evT_plain rfl] at h
    have h' := h.bind
    unfold evE at h'
    refine tE.mk e m h' fun d1 S1 ρ1 H1 v1 x1 m1 e1 r1 h1 => tE.mk e1 m1 h1 fun d2 S2 ρ2 H2 v2 x2 m2 e2 r2 h2 => ?_
    refine ⟨ρ2, S2, _, _, m2, (Rel.ext m1 x2 _ _ r1).look m2, r2.look m2, ?_⟩
    cases ec : cmpD o (d1.look S2) (d2.look S2) with
    | none =>
      rw [ec] at h2
      exact (show False from h2).elim
    | some d =>
      rw [ec] at h2
      obtain ⟨k, rfl⟩ := cmpD_bl ec
      refine ⟨_, rfl, fun ρ3 H3 v x3 m3 r3 => ⟨k, rT_bl.mp (rel_rT r3), ?_⟩⟩
      obtain ⟨_, _, h3⟩ := h2 ρ3 H3 x3 m3
      exact h3.here m3⟩
theorem t_cmp2 (C : Cmp3 X Γ) {o o' : CmpOp} (hm : lastMarks [o, o'] [b, c] = false) (ha : Hv X Γ W kp P a x) (hb : Hv X Γ W kp P b y) (hc : Hv X Γ W kp P c z) : HvT X Γ W kp P (.Compare a [o, o'] [b, c] pos) (.cmp2 o o' x y z)
  | 0 => pt_zero _
  | 1 => ⟨fun pins s σ H Q I ⟨ρ, S, env, e, m, h⟩ => by
    rw [evT_plain rfl] at h
    unfold evE at h
    exact (show False from h).elim⟩
  | n + 2 => ⟨fun pins s σ H Q I ⟨ρ, S, env, e, m, h⟩ => by
    refine (pt_chain (cmp_ok C.K C.w C.hu o) (cmp_ok C.K C.w C.hu o') (ha n) (hb n) (hc n) hm).run pins s σ H Q I ?_
    rw [evT_plain rfl] at h
    have h' := h.bind
    unfold evE at h'
    refine tE.mk e m h' fun d1 S1 ρ1 H1 v1 x1 m1 e1 r1 h1 => tE.mk e1 m1 h1 fun d2 S2 ρ2 H2 v2 x2 m2 e2 r2 h2 => ?_
    have r1' := Rel.ext m1 x2 _ _ r1
    split at h2
    · rename_i q
      refine ⟨ρ2, S2, _, _, m2, r1'.look m2, r2.look m2, _, q, fun ρ3 H3 v3 x3 m3 r3 => ⟨true, rT_bl.mp (rel_rT r3), ?_⟩⟩
      rw [if_pos rfl]
      refine tE.mk (e2.ext m2 x3) m3 (h2.ext x3) fun d4 S4 ρ4 H4 v4 x4 m4 e4 r4 h4 => ?_
      refine ⟨ρ4, S4, _, _, m4, (Rel.ext m3 x4 _ _ (Rel.ext m2 x3 _ _ r2)).look m4, r4.look m4, ?_⟩
      cases ec : cmpD o' (d2.look S4) (d4.look S4) with
      | none =>
        rw [ec] at h4
        exact (show False from h4).elim
      | some d =>
        rw [ec] at h4
        obtain ⟨k, rfl⟩ := cmpD_bl ec
        refine ⟨_, rfl, fun ρ5 H5 v x5 m5 r5 => ⟨k, rT_bl.mp (rel_rT r5), ?_⟩⟩
        obtain ⟨_, _, h5⟩ := h4 ρ5 H5 x5 m5
        exact h5.here m5
    · rename_i q
      refine ⟨ρ2, S2, _, _, m2, r1'.look m2, r2.look m2, _, q, fun ρ3 H3 v3 x3 m3 r3 => ⟨false, rT_bl.mp (rel_rT r3), ?_⟩⟩
      rw [if_neg Bool.false_ne_true]
      obtain ⟨_, _, h3⟩ := h2 ρ3 H3 x3 m3
      exact ⟨false, rfl, h3.here m3⟩
    · exact (show False from h2).elim⟩
end
/-! ### plain facts of the text -/
def isStar : PySem.Expr → Bool
  | .Starred _ _ => true
  | _ => false
theorem star_cons {e : PySem.Expr} {es : List PySem.Expr} {env : Env} (h : isStar e = false) : starEach (e :: es) env = (false, eval e env) :: starEach es env := by
  cases e <;> first | rfl | (cases h; done)
theorem star_plain {es : List PySem.Expr} {env : Env} {pos : Pos} (h : es.all (fun e => !isStar e) = true) : (backTo pos (starEach es env)).any (·.1) = false := by
  induction es with
  | nil => rfl
  | cons e es ih =>
    rw [List.all_cons, Bool.and_eq_true] at h
    have h1 : isStar e = false := by
      have := h.1
      simpa using this
    rw [star_cons h1]
    show (false || (backTo pos (starEach es env)).any (·.1)) = false
    rw [ih h.2]
    rfl
def isComp : PySem.Expr → Bool
  | .ListComp _ _ _ _ => true
  | .SetComp _ _ _ _ => true
  | .DictComp _ _ _ _ _ => true
  | _ => false
theorem swaps_no {e : PySem.Expr} {t : Option PySem.Expr} {l : Nat} {env : Env} (h : isComp e = false) : swapsWith e t l env = pure false := by
  cases e <;> first | rfl | (cases h; done)
def isSet : PySem.Expr → Bool
  | .Set _ _ _ => true
  | _ => false
theorem fold_no {e : PySem.Expr} {env : Env} (h : isSet e = false) : ∀ x, foldedSetIterable e env x = pure x := by
  intro x
  cases e <;> first | rfl | (cases h; done)
def isSlice : PySem.Expr → Bool
  | .Slice _ _ _ _ => true
  | _ => false
theorem plain_ix {e : PySem.Expr} (h : isSlice e = false) : PlainIx e := by
  intro o i
  cases e <;> first | rfl | (cases h; done)
/-- the forms whose test is their value's truth -/
def truthForm : PySem.Expr → Bool
  | .UnaryOp _ _ _ => false
  | .BoolOp _ _ _ => false
  | .IfExp _ _ _ _ => false
  | .Compare _ _ _ _ => false
  | _ => true
theorem truth_form {e : PySem.Expr} {env : Env} (h : truthForm e = true) : ∀ whole, isTrue e env whole = (do let v ← whole; standAt e.pos; holding [v] (truthy v)) := by
  intro whole
  cases e <;> first | rfl | (cases h; done)
def bareCall : PySem.Expr → Bool
  | .Call (.Name _ _) [] [] _ => true
  | _ => false
theorem base_ok {o : PySem.Expr} {name : Str} {env : Env} (h : bareCall o = false) : attributeBase o name env (eval o env) = eval o env := by
  unfold attributeBase
  split
  · cases h
  · rfl
def isTup : PySem.Expr → Bool
  | .Tuple _ _ _ => true
  | .List _ _ => true
  | _ => false
theorem stores_no {t e : PySem.Expr} {env : Env} (h : (isTup t && isTup e) = false) : swappedStores [t] e env = pure none := by
  unfold swappedStores
  cases t <;> cases e <;> first | rfl | (cases h; done)
end Ev
set_option Elab.async false
set_option linter.all false
set_option autoImplicit false
set_option maxRecDepth 100000
set_option maxHeartbeats 4000000
/-! E18: the translation of the program's text to the IR (plain Lean). -/
namespace Ev
open PySem PySem.Spec PyProof.Rows L2 TL
/-- a def: its name, parameters, whether its callers' guards must be known, whether it takes a lambda; its calls with keywords: positional ones, keywords, where each parameter's value comes from -/
structure FI where
  name : Str
  ps : List Str
  g : Bool
  thk : Bool
  kw : List (Nat × List Str × List Nat)
/-- the module -/
structure Gi where
  cst : List (Str × D)
  fns : List FI
  cls : List Str
  free : List Str
  fld : Str
  news : List (Nat × Nat)
/-- a block: its names, their slots; own: in a comprehension its own names; pin: slots that are not the IR's -/
structure Ct where
  N : List Str
  sc : Scope
  own : Option (List (Str × NameKind))
  pin : List Nat
  g : Bool
  thk : Option Str
  lam : Bool
def idxOf (x : Str) : List Str → Option Nat
  | [] => none
  | y :: r => if decide (y = x) then some 0 else (idxOf x r).map (· + 1)
theorem idxOf_get {x : Str} : ∀ {l : List Str} {i : Nat}, idxOf x l = some i → l[i]? = some x
  | [], i, h => by cases h
  | y :: r, i, h => by
    unfold idxOf at h
    split at h
    · rename_i e
      cases h
      rw [of_decide_eq_true e]
      rfl
    · obtain ⟨j, e1, rfl⟩ := Option.map_eq_some_iff.mp h
      show r[j]? = some x
      exact idxOf_get e1
def plainNm (x : Str) : Bool := !(x == ("__debug__" : Str)) && !(x == ("__classdict__" : Str))
def isVis (c : Ct) (x : Str) : Bool := match c.sc.names.lookup x with
  | some .local => true
  | some .cell => true
  | some .free => true
  | _ => false
def isLoc (c : Ct) (x : Str) : Bool := match c.sc.names.lookup x with
  | some .local => true
  | some .cell => true
  | _ => false
def isGlo (c : Ct) (x : Str) : Bool := match c.sc.names.lookup x with
  | some .globalImplicit => true
  | _ => false
/-- may be stored -/
def canSto (c : Ct) (x : Str) : Bool := match c.own with
  | none => true
  | some l => (match l.lookup x with
    | some .cell => true
    | _ => false) || (match c.sc.names.lookup x with
    | some .local => true
    | _ => false)
def slotOf (c : Ct) (x : Str) : Option Nat := if plainNm x && isVis c x then (match idxOf x c.N with
    | some i => if c.pin.contains i then none else some i
    | none => none) else none
/-- a slot that is stored -/
def stoOf (c : Ct) (x : Str) : Option Nat := if isLoc c x && canSto c x then (match idxOf x c.N with
    | some i => if c.pin.contains i then none else some i
    | none => none) else none
def bfOf (x : Str) : Option Bf := [Bf.len, .abs, .max, .min, .divmod, .int, .str, .repr, .all, .any, .sum, .tuple, .list].find? fun b => decide (bifN b = x)
def clOf (x : Str) : Option Cl := [Cl.tInt, .tBool, .tStr, .tTup, .tLst].find? fun b => decide (clS b = x)
def mtOf (x : Str) : Option Mt := [Mt.join, .split, .append, .get].find? fun b => decide (metN b = x)
def findF (x : Str) : List FI → Option (Nat × FI)
  | [] => none
  | f :: r => if decide (f.name = x) then some (0, f) else (findF x r).map fun p => (p.1 + 1, p.2)
theorem findF_get {x : Str} : ∀ {l : List FI} {i : Nat} {f : FI}, findF x l = some (i, f) → l[i]? = some f ∧ f.name = x
  | [], i, f, h => by cases h
  | g :: r, i, f, h => by
    unfold findF at h
    split at h
    · rename_i e
      cases h
      exact ⟨rfl, of_decide_eq_true e⟩
    · obtain ⟨⟨j, f'⟩, e1, e2⟩ := Option.map_eq_some_iff.mp h
      cases e2
      have q := findF_get e1
      exact ⟨q.1, q.2⟩
/-- the own names of a comprehension's block that have slots -/
def ownOf (N : List Str) : List (Str × NameKind) → List (Str × Nat)
  | [] => []
  | (x, k) :: r => (match k with
    | .local => (match idxOf x N with
      | some i => [(x, i)]
      | none => [])
    | .cell => (match idxOf x N with
      | some i => [(x, i)]
      | none => [])
    | _ => []) ++ ownOf N r
def constD : Const → Option D
  | .int i => some (.int i)
  | .bool b => some (.bl b)
  | .none => some .non
  | .str s => if s.length ≤ LINE then some (.str s.cps.toList) else none
  | _ => none
/-- a target: its IR -/
def trG (c : Ct) : Nat → PySem.Expr → Option Tg
  | 0, _ => none
  | m + 1, e => match e with
    | .Name x _ => (stoOf c x).map .nm
    | .Tuple es _ _ => if es.all (fun e => !isStar e) then (es.mapM (trG c m)).map .tup else none
    | _ => none
def kwNames : List Keyword → Option (List Str)
  | [] => some []
  | ⟨some x, _, _⟩ :: r => (kwNames r).map (x :: ·)
  | ⟨none, _, _⟩ :: _ => none
def dicKeys : List (Option PySem.Expr) → List PySem.Expr → Option (List D × List D)
  | [], [] => some ([], [])
  | some (.Constant k _ _) :: ks, .Constant v _ _ :: vs => match constD k, constD v, dicKeys ks vs with
    | some kd, some vd, some (a, b) => if (keyD kd).isSome then some (kd :: a, vd :: b) else none
    | _, _, _ => none
  | _, _ => none
/-- the block of a comprehension -/
def Ct.blk (c : Ct) (scope : Scope) : Ct := { c with sc := relS scope c.sc, own := some scope.names, thk := none, lam := false }
/-- the body of a lambda -/
def Ct.lamB (c : Ct) (scope : Scope) : Ct := { c with sc := scope, own := some [], thk := none, lam := false }
def plainArgs (a : Arguments) : Bool := a.posonlyargs.isEmpty && a.args.isEmpty && a.vararg.isNone && a.kwonlyargs.isEmpty && a.kw_defaults.isEmpty && a.kwarg.isNone && a.defaults.isEmpty
def ownIx (c : Ct) (scope : Scope) : List Nat := (ownOf c.N scope.names).map fun p => p.2
/-- a slice's part that is written -/
def notNon : Ex → Option Ex
  | .cst .non => none
  | y => some y
/-- pairs go to a tuple of names -/
def zipTg (xi : Ex) (t : Tg) : Bool := match xi, t with
  | .zip _ _, .nm _ => false
  | .enu _, .nm _ => false
  | _, _ => true
mutual
def trE (gi : Gi) : Nat → Ct → PySem.Expr → Option Ex
  | 0, _, _ => none
  | m + 1, c, e => match e with
    | .Name x _ => (match slotOf c x with
      | some i => some (.var i)
      | none => if isGlo c x && plainNm x then (gi.cst.lookup x).map .cst else none)
    | .Constant k _ _ => (constD k).map .cst
    | .Tuple es _ _ => if es.length ≤ 1000 && es.all (fun e => !isStar e) then (es.mapM (trE gi m c)).map .tup else none
    | .List es pos => if es.length ≤ 1000 && es.all (fun e => !isStar e) then (es.mapM (trE gi m c)).map fun xs => if gi.news.contains (pos.line, pos.col) then .new (.lst xs) else .lst xs else none
    | .Dict keys values _ => (match dicKeys keys values with
      | some (ks, vs) => if !keys.isEmpty && keys.length ≤ 15 && decide (ks.map keyD).Nodup then some (.dic ks vs) else none
      | none => none)
    | .BinOp a o b _ => (trE gi m c a).bind fun x => (trE gi m c b).map fun y => .bop o x y
    | .UnaryOp .USub a _ => (trE gi m c a).map .neg
    | .UnaryOp .Not a _ => (trE gi m c a).map .not_
    | .Compare a [o] [b] _ => if behindInMarks o b then none else (trE gi m c a).bind fun x => (trE gi m c b).map fun y => .cmp o x y
    | .Compare a [o, o'] [b, b'] _ => if lastMarks [o, o'] [b, b'] then none else (trE gi m c a).bind fun x => (trE gi m c b).bind fun y => (trE gi m c b').map fun z => .cmp2 o o' x y z
    | .BoolOp _ [a] _ => trE gi m c a
    | .BoolOp .And (a :: b :: r) pos => (trE gi m c a).bind fun x => (trE gi m c (.BoolOp .And (b :: r) pos)).map fun y => .and_ x y
    | .BoolOp .Or (a :: b :: r) pos => (trE gi m c a).bind fun x => (trE gi m c (.BoolOp .Or (b :: r) pos)).map fun y => .or_ x y
    | .IfExp t a b _ => (trT gi m c t).bind fun z => (trE gi m c a).bind fun x => (trE gi m c b).map fun y => .ife z x y
    | .Subscript a (.Slice lo hi none _) _ => (trE gi m c a).bind fun x => (match lo with
        | none => some (Ex.cst .non)
        | some l => (trE gi m c l).bind notNon).bind fun y => (match hi with
        | none => some (Ex.cst .non)
        | some h => (trE gi m c h).bind notNon).map fun z => .slc x y z
    | .Subscript a i _ => if isSlice i then none else (trE gi m c a).bind fun x => (trE gi m c i).map fun y => .sub x y
    | .ListComp elt [⟨tg, it, ifs, 0⟩] scope _ => if isSet it || !blkC c.N c.sc scope (ownOf c.N scope.names) || c.pin.any (fun i => (ownIx c scope).contains i) then none else
        (trI gi m c it).bind fun xi => (trG (c.blk scope) m tg).bind fun t => if (tgSl t).all (fun j => (ownIx c scope).contains j) && zipTg xi t then
          (match ifs with
            | [] => some []
            | [i] => (trT gi m (c.blk scope) i).map fun x => [x]
            | _ => none).bind fun xf => (trE gi m (c.blk scope) elt).map fun x => .lc x t xi xf (ownIx c scope) else none
    | .Call (.Attribute o name apos) (e :: es) [] cpos => if bareCall o || !(apos.endLine == cpos.line) || !(e :: es).all (fun e => !isStar e) || !decide ((e :: es).length < 29) then none else (match mtOf name with
        | some mt => (trE gi m c o).bind fun x => ((e :: es).mapM (trE gi m c)).map fun xs => .met mt x xs
        | none => none)
    | .Call (.Name x _) es kws _ => if !plainNm x || !es.all (fun e => !isStar e) then none else
        if decide (c.thk = some x) && es.isEmpty && kws.isEmpty then some .thk else
        if !isGlo c x then none else
        (match findF x gi.fns with
        | some (i, fi) => if fi.thk then (match es, kws with
            | [.Lambda params body scope _], [] => if c.lam && plainArgs params && LamX.lamSB c.sc scope then (trE gi m (c.lamB scope) body).map fun b => .lam i b else none
            | _, _ => none) else
          if fi.g && !c.g then none else
          (es.mapM (trE gi m c)).bind fun xs => (match kws with
            | [] => if decide (es.length = fi.ps.length) then some (.call i xs []) else none
            | kws => (kwNames kws).bind fun ks => (kws.mapM fun k => trE gi m c k.value).bind fun ys => (match fi.kw.find? fun q => decide (q.1 = es.length) && decide (q.2.1 = ks) with
              | some q => some (.call i (xs ++ ys) q.2.2)
              | none => none))
        | none => if !gi.free.contains x || !kws.isEmpty then none else
          if decide (x = "isinstance") then (match es with
            | [a, .Name t _] => (match clOf t with
              | some cl => if isGlo c t && gi.free.contains t then (trE gi m c a).map fun x => .isi x cl else none
              | none => none)
            | _ => none) else
          (match bfOf x with
          | some b => if es.isEmpty || (decide (b = .repr) && !c.g) then none else (es.mapM (trE gi m c)).map fun xs => .bif b xs
          | none => none))
    | _ => none
def trT (gi : Gi) : Nat → Ct → PySem.Expr → Option Ex
  | 0, _, _ => none
  | m + 1, c, e => match e with
    | .UnaryOp .Not a _ => (trT gi m c a).map .not_
    | .BoolOp _ [a] _ => trT gi m c a
    | .BoolOp .And (a :: b :: r) pos => (trT gi m c a).bind fun x => (trT gi m c (.BoolOp .And (b :: r) pos)).map fun y => .and_ x y
    | .BoolOp .Or (a :: b :: r) pos => (trT gi m c a).bind fun x => (trT gi m c (.BoolOp .Or (b :: r) pos)).map fun y => .or_ x y
    | .Compare a [o] [b] _ => if behindInMarks o b then none else (trE gi m c a).bind fun x => (trE gi m c b).map fun y => .cmp o x y
    | .Compare a [o, o'] [b, b'] _ => if lastMarks [o, o'] [b, b'] then none else (trE gi m c a).bind fun x => (trE gi m c b).bind fun y => (trE gi m c b').map fun z => .cmp2 o o' x y z
    | e => if truthForm e then (trE gi m c e).bind fun x => if plainEx x then some x else none else none
def trI (gi : Gi) : Nat → Ct → PySem.Expr → Option Ex
  | 0, _, _ => none
  | m + 1, c, e => match e with
    | .Call (.Name x p) es [] pos => if decide (x = "range") then (if isGlo c "range" && gi.free.contains "range" then (match es with
          | [b] => if isStar b then none else (trE gi m c b).map fun y => .rng (.cst (.int 0)) y
          | [a, b] => if isStar a || isStar b then none else (trE gi m c a).bind fun x => (trE gi m c b).map fun y => .rng x y
          | _ => none) else none)
      else if decide (x = "zip") then (if isGlo c "zip" && gi.free.contains "zip" then (match es with
          | [a, b] => if isStar a || isStar b then none else (trE gi m c a).bind fun x => (trE gi m c b).map fun y => .zip x y
          | _ => none) else none)
      else (trE gi m c (.Call (.Name x p) es [] pos)).bind fun x => if plainIt x then some x else none
    | e => (trE gi m c e).bind fun x => if plainIt x then some x else none
end
end Ev
set_option Elab.async false
set_option linter.all false
set_option autoImplicit false
set_option maxRecDepth 100000
set_option maxHeartbeats 4000000
/-! E19: what a context must give; contexts within contexts. -/
namespace Ev
open PySem PySem.Spec PyProof.Rows L2 TL
/-- a def that takes a lambda, at the depth d -/
def GiveX (X : Cx) (Γ : Gd) (P : Pg) (d i : Nat) (fi : FI) : Prop :=
  ∃ (g : Addr) (pg : Arguments) (bg : List Stmt) (sg : Scope) (dV kV doc pm cdv ct oc : Value) (an od : Option Addr) (osl : Array (Option Value)) (Ng : List Str) (a : Str),
    X.mg fi.name = some (.ref g) ∧ PySem.W.keepIn X.K (.ref g) = true ∧ X.K.lookup g = some ⟨oc, od, .func (PySem.W.fnOf fi.name fi.name pg bg sg dV kV doc pm an cdv ct), osl⟩ ∧ PySem.W.codeIn X.K cdv fi.name = true ∧
    L2.Binds X.K (PySem.W.fnOf fi.name fi.name pg bg sg dV kV doc pm an cdv ct) [a] [] ∧ FnScope Ng [a] sg ∧ Ng[0]? = some a ∧ Vis sg a ∧ plainNm a = true ∧
    ∀ (s : Shared) (H : Hp) (f c' : Addr) (E : XK) (Q : VK) (th : Sto → R D) (kpf : Keep) (ρ : Loc) (S : Sto), kpf.sl = [(0, .ref f)] →
      (∀ (W' : WX) (pn : List (Addr × Obj)) (xe : Value → Shared → Prop) (p1 p2 : Pos), Takes ((cxOf (L2.CX X.prog X.w) X.prog X.w X.K X.mg X.base Ng fi.name sg g cdv X.A X.stack s H E).tr pn xe) W' →
        PE ((cxOf (L2.CX X.prog X.w) X.prog X.w X.K X.mg X.base Ng fi.name sg g cdv X.A X.stack s H E).tr pn xe) (.Call (.Name a p1) [] [] p2) (tThk Γ W' kpf th)) →
      Room (3 * d + 1) (X.A.deeper (envOfC fi.name sg s.heap.objs.size g cdv)) → Rm Γ ρ S H → (∀ p ∈ kpf.hp, H p.1 = some p.2 ∧ Still p.2 ∧ ∀ vs, p.2 ≠ .lst vs) → (∀ p ∈ kpf.vl, Rel Γ ρ H p.1 p.2) → okG Γ E ρ H (P.lam i th S) (kV' Γ Q) →
      ∃ t, PSs (cxOf (L2.CX X.prog X.w) X.prog X.w X.K X.mg X.base Ng fi.name sg g cdv X.A X.stack s H E) bg t ∧ t { nx := fun _ H' => Q .non H', rt := Q } (L2.start Ng [.ref f]) H
/-- what lambdas ask of the def that makes them -/
structure LamX0 (gi : Gi) (d : Nat) (X : Cx) (Γ : Gd) (P : Pg) : Prop where
  tab : ∃ cc Pt, LamX.TabB X.base X.mg cc Pt ∧ X.env.code = .ref cc ∧ (Pt, X.env.qual ++ "<lambda>") ∈ Γ.T ∧ ∀ p ∈ Γ.T, p.1 = Pt → p.2 = X.env.qual ++ "<lambda>"
  room : Room (3 * d + 2) X.A
  give : ∀ x i fi, findF x gi.fns = some (i, fi) → fi.thk = true → GiveX X Γ P d i fi
structure Good (gi : Gi) (d : Nat) (c : Ct) (X : Cx) (Γ : Gd) (W : WX) (kp : Keep) (P : Pg) : Prop where
  N : X.N = c.N
  nd : c.N.Nodup
  sc : X.env.scope = c.sc
  fn : ∀ x, canSto c x = true → X.fn x = true ∨ X.env.scope.names.lookup x = some .local
  calm : Calm X Γ
  guard : c.g = true → X.A.guards = some []
  room : Room (3 * d) X.A
  tk : Takes X W
  pin : ∀ q ∈ kp.sl, c.pin.contains q.1 = true
  cst : ∀ x dd, gi.cst.lookup x = some dd → ∃ v u, X.mg x = some u ∧ RelV v u ∧ ∀ ρ H, Rel Γ ρ H dd v
  free : ∀ x, gi.free.contains x = true → X.mg x = none
  fns : ∀ x i fi, findF x gi.fns = some (i, fi) → fi.thk = false → ∃ f fd, X.mg fi.name = some (.ref f) ∧ PySem.W.keepIn X.K (.ref f) = true ∧ FnX X.prog X.w X.K X.mg X.base fi.g (3 * d) f fd fi.ps (SpD Γ P.call i) ∧
    BndX X.K fd fi.ps fi.ps.length [] [] ∧ ∀ q ∈ fi.kw, BndX X.K fd fi.ps q.1 q.2.1 q.2.2
  thk : ∀ a, c.thk = some a → ∀ p1 p2, PE X (.Call (.Name a p1) [] [] p2) (tThk Γ W kp P.thk)
  lam : c.lam = true → LamX0 gi d X Γ P
section
variable {gi : Gi} {d : Nat} {c : Ct} {X : Cx} {Γ : Gd} {W : WX} {kp : Keep} {P : Pg}
theorem Good.cmp3 (G : Good gi d c X Γ W kp P) : Cmp3 X Γ := ⟨G.calm.K, G.calm.w, G.calm.hu⟩
/-- in a comprehension -/
theorem Good.blk (G : Good gi d c X Γ W kp P) (s : Shared) (H : Hp) (scope : Scope) (C : Addr) (cl : List (Str × Addr)) (fp : List Addr) (hk : True) : Good gi d (c.blk scope) (X.blk s H scope (compEnvC scope cl C X.env) fp) Γ W0 kp P where
  N := G.N
  nd := G.nd
  sc := by
    show relabel scope X.env = relS scope c.sc
    rw [← G.sc]
    rfl
  fn := fun x h => by
    have h : ((match scope.names.lookup x with
      | some .cell => true
      | _ => false) || (match (relS scope c.sc).names.lookup x with
      | some .local => true
      | _ => false)) = true := h
    rcases Bool.or_eq_true_iff.mp h with h | h
    · left
      show (scope.names.lookup x == some .cell) = true
      split at h
      · rename_i e
        rw [e]
        rfl
      · cases h
    · right
      have e : (X.blk s H scope (compEnvC scope cl C X.env) fp).env.scope = relS scope c.sc := by
        show relabel scope X.env = relS scope c.sc
        rw [← G.sc]
        rfl
      rw [e]
      split at h
      · assumption
      · cases h
  calm := ⟨G.calm.K, G.calm.w, G.calm.hu, G.calm.hh, G.calm.hd⟩
  guard := G.guard
  room := G.room
  tk := takes_none5
  pin := G.pin
  cst := G.cst
  free := G.free
  fns := G.fns
  thk := fun a h => nomatch h
  lam := fun h => nomatch h
/-- in a lambda's body -/
theorem Good.lamC (G : Good gi d c X Γ W kp P) {A : Around} {outer : List Env} {s : Shared} {H : Hp} {E : XK} {scope : Scope} {f c' : Addr} (hr : Room (3 * d) (A.deeper (LamX.lamEnv X scope s.heap.objs.size f c'))) (hg : A.guards = X.A.guards) (hu : (A.deeper (LamX.lamEnv X scope s.heap.objs.size f c')).units + 66 < cLine) :
    Good gi d (c.lamB scope) (LamX.lamCx X A outer s H E scope f c') Γ (fun cls d _ H => E cls d H) kp P where
  N := G.N
  nd := G.nd
  sc := rfl
  fn := fun x h => by
    have h : ((match ([] : List (Str × NameKind)).lookup x with
      | some .cell => true
      | _ => false) || (match scope.names.lookup x with
      | some .local => true
      | _ => false)) = true := h
    rcases Bool.or_eq_true_iff.mp h with h | h
    · cases h
    · right
      show scope.names.lookup x = some .local
      split at h
      · assumption
      · cases h
  calm := ⟨G.calm.K, G.calm.w, hu, rfl, hr.hd⟩
  guard := fun h => by
    have := G.guard h
    rw [← hg] at this
    exact this
  room := hr
  tk := takes_of (E := E) (E₁ := fun e' s'' => L2.CX X.prog X.w outer H s E e' s'') rfl rfl rfl rfl
  pin := G.pin
  cst := G.cst
  free := G.free
  fns := G.fns
  thk := fun a h => nomatch h
  lam := fun h => nomatch h
end
end Ev
set_option Elab.async false
set_option linter.all false
set_option autoImplicit false
set_option maxRecDepth 100000
set_option maxHeartbeats 8000000
/-! E20: the translation is sound: expressions. -/
namespace Ev
open PySem PySem.Spec PyProof.Rows L2 TL
section
variable {gi : Gi} {d : Nat} {c : Ct} {X : Cx} {Γ : Gd} {W : WX} {kp : Keep} {P : Pg}
theorem nm_ok {x : Str} (h : plainNm x = true) : (x == ("__debug__" : Str)) = false ∧ (x == ("__classdict__" : Str)) = false := by
  unfold plainNm at h
  rw [Bool.and_eq_true, Bool.not_eq_true', Bool.not_eq_true'] at h
  exact h
theorem vis_ok {x : Str} (h : isVis c x = true) : Vis c.sc x := by
  unfold isVis at h
  split at h
  · rename_i e
    exact .inl e
  · rename_i e
    exact .inr (.inl e)
  · rename_i e
    exact .inr (.inr e)
  · cases h
theorem loc_ok {x : Str} (h : isLoc c x = true) : L2.Loc c.sc x := by
  unfold isLoc at h
  split at h
  · rename_i e
    exact .inl e
  · rename_i e
    exact .inr e
  · cases h
theorem glo_okC {x : Str} (G : Good gi d c X Γ W kp P) (h : isGlo c x = true) : Gl X x := by
  unfold isGlo at h
  split at h
  · rename_i e
    show X.env.scope.names.lookup x = _
    rw [G.sc]
    exact e
  · cases h
theorem slot_ok {x : Str} {i : Nat} (G : Good gi d c X Γ W kp P) (h : slotOf c x = some i) : X.N[i]? = some x ∧ Vis X.env.scope x ∧ plainNm x = true := by
  unfold slotOf at h
  split at h
  · rename_i e
    rw [Bool.and_eq_true] at e
    split at h
    · rename_i j ej
      split at h
      · cases h
      · cases h
        exact ⟨by rw [G.N]; exact idxOf_get ej, by rw [G.sc]; exact vis_ok e.2, e.1⟩
    · cases h
  · cases h
theorem sto_ok {x : Str} {i : Nat} (G : Good gi d c X Γ W kp P) (h : stoOf c x = some i) : X.N[i]? = some x ∧ L2.Loc X.env.scope x ∧ (X.fn x = true ∨ X.env.scope.names.lookup x = some .local) ∧ ∀ q ∈ kp.sl, q.1 ≠ i := by
  unfold stoOf at h
  split at h
  · rename_i e
    rw [Bool.and_eq_true] at e
    split at h
    · rename_i j ej
      split at h
      · cases h
      · rename_i np
        cases h
        refine ⟨by rw [G.N]; exact idxOf_get ej, by rw [G.sc]; exact loc_ok e.1, G.fn x e.2, fun q hq z => ?_⟩
        have := G.pin q hq
        rw [z] at this
        exact np this
    · cases h
  · cases h
/-- a constant, by value -/
theorem const_ok {k : Const} {dd : D} (h : constD k = some dd) {j : Nat} {pos : Pos} : ∃ v, PE X (.Constant k j pos) (tC v) ∧ (∀ ρ H, Rel Γ ρ H dd v) ∧ ((keyD dd).isSome = true → ∃ z, keyD dd = some z ∧ v = kV z) := by
  cases k with
  | none =>
    cases h
    exact ⟨.non, pe_non, fun _ _ => rel_non, fun z => nomatch z⟩
  | bool b =>
    cases h
    exact ⟨.bl b, pe_bl, fun _ _ => rel_bl, fun z => nomatch z⟩
  | int i =>
    cases h
    exact ⟨.int i, pe_int, fun _ _ => rel_int, fun _ => ⟨.inl i, rfl, rfl⟩⟩
  | str s =>
    have h : (if s.length ≤ LINE then some (D.str s.cps.toList) else none) = some dd := h
    split at h
    · rename_i hl
      cases h
      refine ⟨.str s, pe_str, fun ρ H => ?_, fun _ => ⟨.inr s, ?_, rfl⟩⟩
      · have := rel_str (Γ := Γ) (ρ := ρ) (H := H) (x := s.cps.toList) (by rw [Array.length_toList]; exact Nat.le_trans hl line_le)
        exact this
      · rfl
    · cases h
  | _ => cases h
theorem dic_ok : ∀ {ks : List (Option PySem.Expr)} {vs : List PySem.Expr} {a b : List D}, dicKeys ks vs = some (a, b) → ∃ kvs, DP X Γ ks vs a b kvs
  | [], [], a, b, h => by
    cases h
    exact ⟨[], .nil⟩
  | [], _ :: _, a, b, h => by
    unfold dicKeys at h
    cases h
  | none :: _, _, a, b, h => by
    unfold dicKeys at h
    cases h
  | some k :: ks, [], a, b, h => by
    unfold dicKeys at h
    split at h
    · rename_i e _
      cases e
    · rename_i e
      cases e
    · cases h
  | some k :: ks, v :: vs, a, b, h => by
    unfold dicKeys at h
    split at h
    · rename_i e
      cases e
    · rename_i k' _ _ ks' v' _ _ vs' e1 e2
      cases e1
      cases e2
      split at h
      · rename_i kd vd a' b' h1 h2 h3
        split at h
        · rename_i hk
          cases h
          obtain ⟨kvs, ih⟩ := dic_ok h3
          obtain ⟨v1, p1, _, r1⟩ := const_ok (X := X) (Γ := Γ) h1
          obtain ⟨v2, p2, r2, _⟩ := const_ok (X := X) (Γ := Γ) h2
          obtain ⟨z, ez, e5⟩ := r1 hk
          subst e5
          exact ⟨_, .cons p1 p2 ez r2 ih⟩
        · cases h
      · cases h
    · cases h
theorem own_get {N : List Str} : ∀ {names : List (Str × NameKind)} {p : Str × Nat}, p ∈ ownOf N names → N[p.2]? = some p.1
  | [], p, h => by
    unfold ownOf at h
    simp at h
  | (x, k) :: r, p, h => by
    unfold ownOf at h
    rcases List.mem_append.mp h with h | h
    · cases k <;> simp only at h <;> first
        | (split at h
           · rename_i i e
             rw [List.mem_singleton.mp h]
             exact idxOf_get e
           · simp at h)
        | simp at h
    · exact own_get h
def isTuple : PySem.Expr → Bool
  | .Tuple _ _ _ => true
  | _ => false
/-- the claim at a fuel -/
structure Snd (gi : Gi) (m : Nat) : Prop where
  e : ∀ {d c X Γ W kp P} (G : Good gi d c X Γ W kp P) {e x}, trE gi m c e = some x → Hv X Γ W kp P e x
  t : ∀ {d c X Γ W kp P} (G : Good gi d c X Γ W kp P) {e x}, trT gi m c e = some x → HvT X Γ W kp P e x
  w : ∀ {d c X Γ W kp P} (G : Good gi d c X Γ W kp P) {op es pos x}, trT gi m c (.BoolOp op es pos) = some x → HvW X Γ W kp P (.BoolOp op es pos) x
  i : ∀ {d c X Γ W kp P} (G : Good gi d c X Γ W kp P) {e x tg}, trI gi m c e = some x → isTuple tg = true ∨ plainIt x = true ∨ (∃ a b, x = .rng a b) → HvI X Γ W kp P tg e x
theorem bind2 {α β γ : Type} {o : Option α} {p : Option β} {f : α → β → γ} {z : γ} (h : (o.bind fun x => p.map fun y => f x y) = some z) : ∃ x y, o = some x ∧ p = some y ∧ z = f x y := by
  obtain ⟨x, e1, h⟩ := Option.bind_eq_some_iff.mp h
  obtain ⟨y, e2, h⟩ := Option.map_eq_some_iff.mp h
  exact ⟨x, y, e1, e2, h.symm⟩
theorem bind3 {α β δ γ : Type} {o : Option α} {p : Option β} {q : Option δ} {f : α → β → δ → γ} {z : γ} (h : (o.bind fun x => p.bind fun y => q.map fun w => f x y w) = some z) : ∃ x y w, o = some x ∧ p = some y ∧ q = some w ∧ z = f x y w := by
  obtain ⟨x, e1, h⟩ := Option.bind_eq_some_iff.mp h
  obtain ⟨y, e2, h⟩ := Option.bind_eq_some_iff.mp h
  obtain ⟨w, e3, h⟩ := Option.map_eq_some_iff.mp h
  exact ⟨x, y, w, e1, e2, e3, h.symm⟩
theorem mapM_len {α β : Type} {f : α → Option β} : ∀ {l : List α} {l' : List β}, l.mapM f = some l' → l.length = l'.length
  | [], l', h => by
    cases h
    rfl
  | a :: l, l', h => by
    rw [List.mapM_cons] at h
    obtain ⟨b, e1, h⟩ := Option.bind_eq_some_iff.mp h
    obtain ⟨bs, e2, h⟩ := Option.bind_eq_some_iff.mp h
    cases h
    rw [List.length_cons, List.length_cons, mapM_len e2]
/-- lists of arguments -/
theorem args_ok {m : Nat} (S : Snd gi m) (G : Good gi d c X Γ W kp P) : ∀ {es : List PySem.Expr} {xs : List Ex}, es.all (fun e => !isStar e) = true → es.mapM (trE gi m c) = some xs → HvA X Γ W kp P es xs
  | [], xs, _, h => by
    cases h
    exact a_nil
  | e :: es, xs, hs, h => by
    rw [List.mapM_cons] at h
    obtain ⟨x, e1, h⟩ := Option.bind_eq_some_iff.mp h
    obtain ⟨ys, e2, h⟩ := Option.bind_eq_some_iff.mp h
    cases h
    rw [List.all_cons, Bool.and_eq_true] at hs
    exact a_cons (S.e G e1) (args_ok S G hs.2 e2) (star_cons (by simpa using hs.1))
theorem kws_ok {m : Nat} (S : Snd gi m) (G : Good gi d c X Γ W kp P) : ∀ {kws : List Keyword} {xs : List Ex}, kws.mapM (fun k => trE gi m c k.value) = some xs → HvK X Γ W kp P kws xs
  | [], xs, h => by
    cases h
    exact k_nil
  | ⟨nm, e, kpos⟩ :: kws, xs, h => by
    rw [List.mapM_cons] at h
    obtain ⟨x, e1, h⟩ := Option.bind_eq_some_iff.mp h
    obtain ⟨ys, e2, h⟩ := Option.bind_eq_some_iff.mp h
    cases h
    exact k_cons (S.e G e1) (kws_ok S G e2)
/-- the target of a comprehension, of a for -/
theorem tg_ok (G : Good gi d c X Γ W kp P) : ∀ {m : Nat} {e : PySem.Expr} {t : Tg}, trG c m e = some t → PG X e (gT Γ kp t)
  | 0, e, t, h => by
    unfold trG at h
    cases h
  | m + 1, e, t, h => by
    have tgs : ∀ {es : List PySem.Expr} {ts : List Tg}, es.all (fun e => !isStar e) = true → es.mapM (trG c m) = some ts → PGs X es (gTs Γ kp ts) ∧ (assignEach es X.env).length = ts.length ∧ (assignEach es X.env).findIdx? (·.1) = none := by
      intro es
      induction es with
      | nil =>
        intro ts _ h
        cases h
        exact ⟨gs_nil, rfl, rfl⟩
      | cons e es ih =>
        intro ts hs h
        rw [List.mapM_cons] at h
        obtain ⟨x, e1, h⟩ := Option.bind_eq_some_iff.mp h
        obtain ⟨ys, e2, h⟩ := Option.bind_eq_some_iff.mp h
        cases h
        rw [List.all_cons, Bool.and_eq_true] at hs
        obtain ⟨h1, h2, h3⟩ := ih hs.2 e2
        have hst : isStar e = false := by simpa using hs.1
        have ea : assignEach (e :: es) X.env = (false, assign e X.env) :: assignEach es X.env := by
          cases e <;> first | rfl | (cases hst; done)
        refine ⟨gs_cons (tg_ok G e1) h1 (by rw [ea]; rfl), by rw [ea, List.length_cons, List.length_cons, h2], ?_⟩
        rw [ea, List.findIdx?_cons]
        simp [h3]
    unfold trG at h
    split at h
    · obtain ⟨i, e1, rfl⟩ := Option.map_eq_some_iff.mp h
      obtain ⟨h1, h2, h3, h4⟩ := sto_ok G e1
      exact g_name (by rw [G.N]; exact G.nd) h1 h2 h3 h4
    · split at h
      · rename_i hs
        obtain ⟨ts, e1, rfl⟩ := Option.map_eq_some_iff.mp h
        obtain ⟨h1, h2, h3⟩ := tgs hs e1
        exact g_tup G.calm.K G.calm.hh h1 h2 h3
      · cases h
    · cases h
end
end Ev
set_option Elab.async false
set_option linter.all false
set_option autoImplicit false
set_option maxRecDepth 100000
set_option maxHeartbeats 16000000
/-! E21: the translation is sound: the claim. -/
namespace Ev
open PySem PySem.Spec PyProof.Rows L2 TL
section
variable {gi : Gi} {d : Nat} {c : Ct} {X : Cx} {Γ : Gd} {W : WX} {kp : Keep} {P : Pg}
theorem kw_ok {env : Env} {pos : Pos} : ∀ {kws : List Keyword} {ks : List Str}, kwNames kws = some ks → (backToKw pos (keywordEach kws env)).all (·.1.isSome) = true ∧ (backToKw pos (keywordEach kws env)).filterMap (·.1) = ks ∧ (backToKw pos (keywordEach kws env)).any (·.1.isNone) = false
  | [], ks, h => by
    cases h
    exact ⟨rfl, rfl, rfl⟩
  | ⟨some x, v, p⟩ :: r, ks, h => by
    unfold kwNames at h
    obtain ⟨kr, e1, rfl⟩ := Option.map_eq_some_iff.mp h
    obtain ⟨h1, h2, h3⟩ := kw_ok (env := env) (pos := pos) e1
    have e : backToKw pos (keywordEach (⟨some x, v, p⟩ :: r) env) = (some x, do let u ← eval v env; standAt pos; pure u) :: backToKw pos (keywordEach r env) := rfl
    rw [e]
    refine ⟨?_, ?_, ?_⟩
    · rw [List.all_cons, h1]
      rfl
    · rw [List.filterMap_cons, h2]
    · rw [List.any_cons, h3]
      rfl
  | ⟨none, v, p⟩ :: r, ks, h => by
    unfold kwNames at h
    cases h
theorem callT_ok {es : List PySem.Expr} {kws : List Keyword} {ks : List Str} {pos : Pos} (hs : es.all (fun e => !isStar e) = true) (hk : kwNames kws = some ks) : CallT X es kws ks pos := by
  obtain ⟨h1, h2, h3⟩ := kw_ok (env := X.env) (pos := pos) hk
  refine ⟨h1, h2, by rw [star_plain hs, h3]; rfl, fun e r he => ?_⟩
  subst he
  rw [List.all_cons, Bool.and_eq_true] at hs
  exact star_cons (by simpa using hs.1)
theorem kwNames_len : ∀ {kws : List Keyword} {ks : List Str}, kwNames kws = some ks → kws.length = ks.length
  | [], ks, h => by
    cases h
    rfl
  | ⟨some x, v, p⟩ :: r, ks, h => by
    unfold kwNames at h
    obtain ⟨kr, e1, rfl⟩ := Option.map_eq_some_iff.mp h
    rw [List.length_cons, List.length_cons, kwNames_len e1]
  | ⟨none, v, p⟩ :: r, ks, h => by
    unfold kwNames at h
    cases h
theorem bfOf_eq {x : Str} {b : Bf} (h : bfOf x = some b) : bifN b = x := by
  have := List.find?_some h
  exact of_decide_eq_true this
theorem clOf_eq {x : Str} {b : Cl} (h : clOf x = some b) : clS b = x := by
  have := List.find?_some h
  exact of_decide_eq_true this
theorem mtOf_eq {x : Str} {b : Mt} (h : mtOf x = some b) : metN b = x := by
  have := List.find?_some h
  exact of_decide_eq_true this
theorem units_ok {k : Nat} {A : Around} (r : Room k A) : A.units + 66 < cLine := by
  have := r.un
  omega
theorem plainArgs_ok {params : Arguments} {env : Env} (h : plainArgs params = true) : defaultsOf params env = ([], []) ∧ ∀ (body : PySem.Expr) (scope : Scope) (q : Str) (cl : List (Str × Addr)) (pm cv ctv : Value), bindArgs (PySem.W.kla_fn "<lambda>" q params body scope cl pm cv ctv) ⟨[], []⟩ = pure [] := by
  obtain ⟨a1, a2, a3, a4, a5, a6, a7⟩ := params
  unfold plainArgs at h
  simp only [Bool.and_eq_true, List.isEmpty_iff, Option.isNone_iff_eq_none] at h
  obtain ⟨⟨⟨⟨⟨⟨h1, h2⟩, h3⟩, h4⟩, h5⟩, h6⟩, h7⟩ := h
  subst h1 h2 h3 h4 h5 h6 h7
  exact ⟨rfl, fun _ _ _ _ _ _ _ => rfl⟩
/-- a part of a slice -/
theorem part_ok {m : Nat} (S : Snd gi m) (G : Good gi d c X Γ W kp P) {o : Option PySem.Expr} {x : Ex} (h : (match o with
        | none => some (Ex.cst .non)
        | some l => (trE gi m c l).bind notNon) = some x) : HvO X Γ W kp P o x ∧ (o ≠ none → x ≠ .cst .non) := by
  cases o with
  | none =>
    cases h
    exact ⟨rfl, fun z => absurd rfl z⟩
  | some l =>
    obtain ⟨y, e1, e2⟩ := Option.bind_eq_some_iff.mp (show (trE gi m c l).bind notNon = some x from h)
    unfold notNon at e2
    split at e2
    · cases e2
    · rename_i hne
      cases e2
      exact ⟨S.e G e1, fun _ => hne⟩
/-- a comprehension -/
structure LcParts (gi : Gi) (m : Nat) (c : Ct) (elt tg it : PySem.Expr) (ifs : List PySem.Expr) (scope : Scope) (x : Ex) (t : Tg) (xi xe : Ex) (xf : List Ex) : Prop where
  eq : x = .lc xe t xi xf (ownIx c scope)
  set : isSet it = false
  blk : blkC c.N c.sc scope (ownOf c.N scope.names) = true
  pin : c.pin.any (fun i => (ownIx c scope).contains i) = false
  it : trI gi m c it = some xi
  tg : trG (c.blk scope) m tg = some t
  sl : (tgSl t).all (fun j => (ownIx c scope).contains j) = true
  zt : zipTg xi t = true
  ifs : (ifs = [] ∧ xf = []) ∨ ∃ i y, ifs = [i] ∧ xf = [y] ∧ trT gi m (c.blk scope) i = some y
  elt : trE gi m (c.blk scope) elt = some xe
theorem lc_parts {m : Nat} {elt tg it : PySem.Expr} {ifs : List PySem.Expr} {scope : Scope} {pos : Pos} {x : Ex} (h : trE gi (m + 1) c (.ListComp elt [⟨tg, it, ifs, 0⟩] scope pos) = some x) : ∃ t xi xe xf, LcParts gi m c elt tg it ifs scope x t xi xe xf := by
  unfold trE at h
  simp only at h
  split at h
  · cases h
  · rename_i h0
    rw [Bool.not_eq_true, Bool.or_eq_false_iff, Bool.or_eq_false_iff] at h0
    obtain ⟨⟨h1, h2⟩, h3⟩ := h0
    obtain ⟨xi, e1, h⟩ := Option.bind_eq_some_iff.mp h
    obtain ⟨t, e2, h⟩ := Option.bind_eq_some_iff.mp h
    split at h
    · rename_i h4
      rw [Bool.and_eq_true] at h4
      obtain ⟨xf, e3, h⟩ := Option.bind_eq_some_iff.mp h
      obtain ⟨xe, e4, h⟩ := Option.map_eq_some_iff.mp h
      refine ⟨t, xi, xe, xf, h.symm, h1, by simpa using h2, h3, e1, e2, h4.1, h4.2, ?_, e4⟩
      split at e3
      · cases e3
        exact .inl ⟨rfl, rfl⟩
      · obtain ⟨y, e5, rfl⟩ := Option.map_eq_some_iff.mp e3
        exact .inr ⟨_, y, rfl, rfl, e5⟩
      · cases e3
    · cases h
theorem own_ok (G : Good gi d c X Γ W kp P) {scope : Scope} (h : c.pin.any (fun i => (ownIx c scope).contains i) = false) : ∀ q ∈ kp.sl, q.1 ∉ (ownOf c.N scope.names).map (·.2) := fun q hq z => by
  have h1 := G.pin q hq
  rw [List.any_eq_false] at h
  exact h q.1 (List.contains_iff_mem.mp h1) (List.contains_iff_mem.mpr z)
theorem lc_ifs {m : Nat} (S : Snd gi m) {c' : Ct} {X' : Cx} {W' : WX} (G' : Good gi d c' X' Γ W' kp P) {ifs : List PySem.Expr} {xf : List Ex} (h : (ifs = [] ∧ xf = []) ∨ ∃ i y, ifs = [i] ∧ xf = [y] ∧ trT gi m c' i = some y) : HvTs X' Γ W' kp P ifs xf := by
  rcases h with ⟨rfl, rfl⟩ | ⟨i, y, rfl, rfl, e⟩
  · exact ts_nil
  · exact ts_one (S.t G' e)
/-- what tg and the IR of an iterator go together -/
theorem it_tg {m : Nat} {c' : Ct} {tg : PySem.Expr} {t : Tg} {xi : Ex} (h : trG c' m tg = some t) (hz : zipTg xi t = true) : isTuple tg = true ∨ plainIt xi = true ∨ ∃ a b, xi = .rng a b := by
  have tup : (∃ ts, t = .tup ts) → isTuple tg = true := by
    rintro ⟨ts, rfl⟩
    cases m with
    | zero =>
      unfold trG at h
      cases h
    | succ m =>
      unfold trG at h
      split at h
      · obtain ⟨i, _, e⟩ := Option.map_eq_some_iff.mp h
        cases e
      · rfl
      · cases h
  cases xi with
  | zip a b =>
    cases t with
    | nm i => cases hz
    | tup ts => exact .inl (tup ⟨ts, rfl⟩)
  | enu a =>
    cases t with
    | nm i => cases hz
    | tup ts => exact .inl (tup ⟨ts, rfl⟩)
  | rng a b => exact .inr (.inr ⟨a, b, rfl⟩)
  | _ => exact .inr (.inl rfl)
end
end Ev
set_option Elab.async false
set_option linter.all false
set_option autoImplicit false
set_option maxRecDepth 100000
set_option maxHeartbeats 16000000
/-! E22: the translation is sound: expressions, tests, iterators. -/
namespace Ev
open PySem PySem.Spec PyProof.Rows L2 TL
section
variable {gi : Gi} {d : Nat} {c : Ct} {X : Cx} {Γ : Gd} {W : WX} {kp : Keep} {P : Pg}
/-- zip over two values -/
def ZipOk : Prop := ∀ {X : Cx} {Γ : Gd} {W : WX} {kp : Keep} {P : Pg} {a b : PySem.Expr} {x y : Ex} {p pos tpos : Pos} {elts : List PySem.Expr} {kk : Nat}, Calm X Γ → Gl X "zip" → X.mg "zip" = none → Hv X Γ W kp P a x → Hv X Γ W kp P b y → isStar a = false → isStar b = false → HvI X Γ W kp P (.Tuple elts kk tpos) (.Call (.Name "zip" p) [a, b] [] pos) (.zip x y)
theorem snd_t {m : Nat} (S : Snd gi m) (G : Good gi d c X Γ W kp P) {e : PySem.Expr} {x : Ex} (h : trT gi (m + 1) c e = some x) : HvT X Γ W kp P e x ∧ ∀ op es pos, e = .BoolOp op es pos → HvW X Γ W kp P e x := by
  unfold trT at h
  split at h
  · obtain ⟨y, e1, rfl⟩ := Option.map_eq_some_iff.mp h
    exact ⟨t_not (S.t G e1), fun _ _ _ z => nomatch z⟩
  · rename_i op a pos
    have hw : HvW X Γ W kp P (.BoolOp op [a] pos) x := by
      cases op with
      | And => exact t_one_and (S.t G h)
      | Or => exact t_one_or (S.t G h)
    exact ⟨fun n => (hw n).pt, fun _ _ _ _ => hw⟩
  · rename_i a b r pos
    obtain ⟨y, z, e1, e2, rfl⟩ := bind2 h
    have hw : HvW X Γ W kp P (.BoolOp .And (a :: b :: r) pos) (.and_ y z) := t_and (S.t G e1) (S.w G e2)
    exact ⟨fun n => (hw n).pt, fun _ _ _ _ => hw⟩
  · rename_i a b r pos
    obtain ⟨y, z, e1, e2, rfl⟩ := bind2 h
    have hw : HvW X Γ W kp P (.BoolOp .Or (a :: b :: r) pos) (.or_ y z) := t_or (S.t G e1) (S.w G e2)
    exact ⟨fun n => (hw n).pt, fun _ _ _ _ => hw⟩
  · split at h
    · cases h
    · rename_i hm
      obtain ⟨y, z, e1, e2, rfl⟩ := bind2 h
      exact ⟨t_cmp G.cmp3 (by simpa using hm) (S.e G e1) (S.e G e2), fun _ _ _ z => nomatch z⟩
  · split at h
    · cases h
    · rename_i hm
      obtain ⟨y, z, w, e1, e2, e3, rfl⟩ := bind3 h
      exact ⟨t_cmp2 G.cmp3 (by simpa using hm) (S.e G e1) (S.e G e2) (S.e G e3), fun _ _ _ z => nomatch z⟩
  · split at h
    · rename_i hf
      obtain ⟨y, e1, h⟩ := Option.bind_eq_some_iff.mp h
      split at h
      · rename_i hp
        cases h
        exact ⟨t_truth G.calm.K hp (S.e G e1) (truth_form hf), fun _ _ _ z => by
          subst z
          cases hf⟩
      · cases h
    · cases h
theorem snd_i (hz : ZipOk) {m : Nat} (S : Snd gi m) (G : Good gi d c X Γ W kp P) {e tg : PySem.Expr} {x : Ex} (h : trI gi (m + 1) c e = some x) (ht : isTuple tg = true ∨ plainIt x = true ∨ ∃ a b, x = .rng a b) : HvI X Γ W kp P tg e x := by
  unfold trI at h
  split at h
  · rename_i nm p es pos
    split at h
    · rename_i en
      have en := of_decide_eq_true en
      subst en
      split at h
      · rename_i hg
        rw [Bool.and_eq_true] at hg
        split at h
        · rename_i b
          split at h
          · cases h
          · rename_i hs
            obtain ⟨y, e1, rfl⟩ := Option.map_eq_some_iff.mp h
            exact i_rng1 (glo_okC G hg.1) (G.free _ hg.2) (S.e G e1) (star_cons (by simpa using hs))
        · rename_i a b
          split at h
          · cases h
          · rename_i hs
            rw [Bool.not_eq_true, Bool.or_eq_false_iff] at hs
            obtain ⟨y, z, e1, e2, rfl⟩ := bind2 h
            have s2 : starEach [b] X.env = [(false, eval b X.env)] := star_cons hs.2
            exact i_rng2 (glo_okC G hg.1) (G.free _ hg.2) (S.e G e1) (S.e G e2) (by rw [star_cons hs.1, s2]) s2
        · cases h
      · cases h
    · split at h
      · rename_i en
        have en := of_decide_eq_true en
        subst en
        split at h
        · rename_i hg
          rw [Bool.and_eq_true] at hg
          split at h
          · rename_i a b
            split at h
            · cases h
            · rename_i hs
              rw [Bool.not_eq_true, Bool.or_eq_false_iff] at hs
              obtain ⟨y, z, e1, e2, rfl⟩ := bind2 h
              have htt : isTuple tg = true := by
                rcases ht with ht | ht | ⟨_, _, ht⟩
                · exact ht
                · cases ht
                · cases ht
              cases tg <;> first | (cases htt; done) | skip
              exact hz G.calm (glo_okC G hg.1) (G.free _ hg.2) (S.e G e1) (S.e G e2) hs.1 hs.2
          · cases h
        · cases h
      · obtain ⟨y, e1, h⟩ := Option.bind_eq_some_iff.mp h
        split at h
        · rename_i hp
          cases h
          exact i_val G.calm.K hp (S.e G e1)
        · cases h
  · obtain ⟨y, e1, h⟩ := Option.bind_eq_some_iff.mp h
    split at h
    · rename_i hp
      cases h
      exact i_val G.calm.K hp (S.e G e1)
    · cases h
theorem snd_lc {m : Nat} (S : Snd gi m) (G : Good gi d c X Γ W kp P) {elt tg it : PySem.Expr} {ifs : List PySem.Expr} {scope : Scope} {pos : Pos} {x xi xe : Ex} {t : Tg} {xf : List Ex} (L : LcParts gi m c elt tg it ifs scope x t xi xe xf) :
    Hv X Γ W kp P (.ListComp elt [⟨tg, it, ifs, 0⟩] scope pos) x := by
  obtain ⟨rfl, h1, h2, h3, h4, h5, h6, h6z, h7, h8⟩ := L
  have hb : BlkOk X.N X.env.scope scope (ownOf c.N scope.names) := by
    rw [G.N, G.sc]
    exact blkOk_by h2
  exact h_lc G.calm.hh (by rw [G.N]; exact G.nd) (S.i G h4 (it_tg h5 h6z)) hb
    (fun s H C cl fp => tg_ok (P := P) (G.blk s H scope C cl fp trivial |> fun g => g) h5)
    (fun s H C cl fp => lc_ifs S (G.blk s H scope C cl fp trivial) h7)
    (fun s H C cl fp => S.e (G.blk s H scope C cl fp trivial) h8)
    (fold_no h1) (fun j hj => List.contains_iff_mem.mp (List.all_eq_true.mp h6 j hj)) (own_ok G h3)
end
end Ev
set_option Elab.async false
set_option linter.all false
set_option autoImplicit false
set_option maxRecDepth 100000
set_option maxHeartbeats 16000000
/-! E23: the translation is sound: all expressions. -/
namespace Ev
open PySem PySem.Spec PyProof.Rows L2 TL
section
variable {gi : Gi} {d : Nat} {c : Ct} {X : Cx} {Γ : Gd} {W : WX} {kp : Keep} {P : Pg}
theorem snd_met {m : Nat} (S : Snd gi m) (G : Good gi d c X Γ W kp P) {o e : PySem.Expr} {es : List PySem.Expr} {name : Str} {apos cpos : Pos} {x : Ex} (h : trE gi (m + 1) c (.Call (.Attribute o name apos) (e :: es) [] cpos) = some x) : Hv X Γ W kp P (.Call (.Attribute o name apos) (e :: es) [] cpos) x := by
  unfold trE at h
  simp only at h
  split at h
  · cases h
  · rename_i h0
    rw [Bool.not_eq_true, Bool.or_eq_false_iff, Bool.or_eq_false_iff, Bool.or_eq_false_iff] at h0
    obtain ⟨⟨⟨h1, h2⟩, h3⟩, h4⟩ := h0
    have h3 : (e :: es).all (fun e => !isStar e) = true := by simpa using h3
    have h4 : (e :: es).length < 29 := by simpa using h4
    split at h
    · rename_i mt em
      have em := mtOf_eq em
      subst em
      obtain ⟨y, z, e1, e2, rfl⟩ := bind2 h
      have h3' := h3
      rw [List.all_cons, Bool.and_eq_true] at h3'
      have st : starEach (e :: es) X.env = (false, eval e X.env) :: starEach es X.env := star_cons (by simpa using h3'.1)
      refine h_met G.calm.K G.calm.w G.calm.hu mt (S.e G e1) (args_ok S G h3 e2) ⟨base_ok h1, ?_, by simpa using h2, st, star_plain h3'.2⟩
      rw [Bool.and_eq_true, Bool.and_eq_true]
      refine ⟨⟨?_, rfl⟩, decide_eq_true (by
        have := h4
        simp at this ⊢
        omega)⟩
      have hp := star_plain (env := X.env) (pos := cpos) h3
      rw [List.all_eq_true]
      rw [List.any_eq_false] at hp
      intro q hq
      have := hp q hq
      simpa using this
    · cases h
theorem snd_call {m : Nat} (S : Snd gi m) (G : Good gi d c X Γ W kp P) {nm : Str} {es : List PySem.Expr} {kws : List Keyword} {p pos : Pos} {x : Ex} (h : trE gi (m + 1) c (.Call (.Name nm p) es kws pos) = some x) : Hv X Γ W kp P (.Call (.Name nm p) es kws pos) x := by
  unfold trE at h
  simp only at h
  split at h
  · cases h
  · rename_i h0
    rw [Bool.not_eq_true, Bool.or_eq_false_iff] at h0
    have hpl : plainNm nm = true := by simpa using h0.1
    have hst : es.all (fun e => !isStar e) = true := by simpa using h0.2
    split at h
    · rename_i ht
      rw [Bool.and_eq_true, Bool.and_eq_true, decide_eq_true_eq] at ht
      obtain ⟨⟨t1, t2⟩, t3⟩ := ht
      cases h
      have e1 := List.isEmpty_iff.mp t2
      have e2 := List.isEmpty_iff.mp t3
      subst e1
      subst e2
      exact h_thk (G.thk nm t1 p pos)
    · split at h
      · cases h
      · rename_i hg
        have hg : Gl X nm := glo_okC G (by simpa using hg)
        split at h
        · -- a def
          rename_i i fi ef
          obtain ⟨eg, en⟩ := findF_get ef
          split at h
          · rename_i hthk
            -- with a lambda
            split at h
            · rename_i params body scope lpos _
              split at h
              · rename_i hl
                rw [Bool.and_eq_true, Bool.and_eq_true] at hl
                obtain ⟨⟨l1, l2⟩, l3⟩ := hl
                obtain ⟨y, e1, rfl⟩ := Option.map_eq_some_iff.mp h
                have L := G.lam l1
                obtain ⟨cc, Pt, TB, hcode, hmT, hu⟩ := L.tab
                obtain ⟨g, pg, bg, sg, dV, kV, doc, pm, cdv, ct, oc, an, od, osl, Ng, a, q1, q2, q3, q4, q5, q6, q7, q8, q9, q10⟩ := L.give nm i fi ef hthk
                subst en
                obtain ⟨pa1, pa2⟩ := plainArgs_ok (env := X.env) l2
                have LS : LamX.LamS X.env.scope scope := by
                  rw [G.sc]
                  exact LamX.lamS_by l3
                refine h_lam hg q1 q2 q3 q4 q5 q6 q7 q8 G.tk TB hcode hmT hu L.room LS pa1 (fun q cl pm cv ctv => pa2 body scope q cl pm cv ctv) (fun env outer s H E f c' hr => ?_) q10 (nm_ok hpl).1 (nm_ok q9).1 (nm_ok q9).2
                exact S.e (G.lamC hr rfl (units_ok hr)) e1
              · cases h
            · cases h
          · rename_i hthk
            have hthk : fi.thk = false := by simpa using hthk
            obtain ⟨f, fd, q1, q2, q3, q4, q5⟩ := G.fns nm i fi ef hthk
            rw [en] at q1
            split at h
            · cases h
            · rename_i hgd
              have hA : fi.g = true → X.A.guards = some [] := fun z => G.guard (by
                rw [z] at hgd
                simpa using hgd)
              obtain ⟨xs, e1, h⟩ := Option.bind_eq_some_iff.mp h
              have hlx := mapM_len e1
              split at h
              · split at h
                · rename_i hl
                  cases h
                  have hl : es.length = fi.ps.length := of_decide_eq_true hl
                  have hb : BndX X.K fd fi.ps xs.length [] [] := by
                    rw [← hlx, hl]
                    exact q4
                  have := h_call (fi := i) (ys := []) (kws := []) q3 rfl G.room hA hg q1 q2 hb rfl G.tk (fun z => by
                    rw [z] at hlx
                    exact List.eq_nil_of_length_eq_zero hlx.symm) (args_ok S G hst e1) k_nil (callT_ok (pos := pos) hst rfl) (p := p) (nm_ok hpl).1
                  rw [List.append_nil] at this
                  exact this
                · cases h
              · obtain ⟨ks, e2, h⟩ := Option.bind_eq_some_iff.mp h
                obtain ⟨ys, e3, h⟩ := Option.bind_eq_some_iff.mp h
                split at h
                · rename_i q eq
                  cases h
                  have hq := List.find?_some eq
                  rw [Bool.and_eq_true, decide_eq_true_eq, decide_eq_true_eq] at hq
                  have hm := List.mem_of_find?_eq_some eq
                  have hb := q5 q hm
                  rw [hq.1, hq.2, hlx] at hb
                  refine h_call q3 rfl G.room hA hg q1 q2 hb ?_ G.tk (fun z => by
                    rw [z] at hlx
                    exact List.eq_nil_of_length_eq_zero hlx.symm) (args_ok S G hst e1) (kws_ok S G e3) (callT_ok (pos := pos) hst e2) (p := p) (nm_ok hpl).1
                  rw [← mapM_len e3, kwNames_len e2]
                · cases h
        · split at h
          · cases h
          · rename_i hf
            rw [Bool.not_eq_true, Bool.or_eq_false_iff] at hf
            have hfr : X.mg nm = none := G.free nm (by simpa using hf.1)
            have hk : kws = [] := List.isEmpty_iff.mp (by simpa using hf.2)
            subst hk
            split at h
            · rename_i en
              have en := of_decide_eq_true en
              subst en
              split at h
              · rename_i a t tp
                split at h
                · rename_i cl ec
                  have ec := clOf_eq ec
                  subst ec
                  split at h
                  · rename_i hc
                    rw [Bool.and_eq_true] at hc
                    obtain ⟨y, e1, rfl⟩ := Option.map_eq_some_iff.mp h
                    rw [List.all_cons, Bool.and_eq_true] at hst
                    exact h_isi G.calm.K cl hg hfr (glo_okC G hc.1) (G.free _ hc.2) (S.e G e1) (star_cons (by simpa using hst.1))
                  · cases h
                · cases h
              · cases h
            · split at h
              · rename_i b eb
                have eb := bfOf_eq eb
                subst eb
                split at h
                · cases h
                · rename_i hb
                  rw [Bool.not_eq_true, Bool.or_eq_false_iff] at hb
                  obtain ⟨xs, e1, rfl⟩ := Option.map_eq_some_iff.mp h
                  cases es with
                  | nil => exact absurd hb.1 (by simp)
                  | cons e0 es =>
                    have hst' := hst
                    rw [List.all_cons, Bool.and_eq_true] at hst'
                    refine h_bif G.calm b (fun z => G.guard ?_) hg hfr (args_ok S G hst e1) (star_cons (by simpa using hst'.1)) (star_plain hst'.2)
                    have h2 := hb.2
                    rw [decide_eq_true z] at h2
                    simpa using h2
              · cases h
theorem snd_e (hz : ZipOk) {m : Nat} (S : Snd gi m) (G : Good gi d c X Γ W kp P) {e : PySem.Expr} {x : Ex} (h : trE gi (m + 1) c e = some x) : Hv X Γ W kp P e x := by
  have h0 := h
  unfold trE at h
  split at h
  · -- names
    rename_i nm pos
    split at h
    · rename_i i es
      cases h
      obtain ⟨h1, h2, h3⟩ := slot_ok G es
      exact h_var h1 h2 (nm_ok h3).1 (nm_ok h3).2
    · split at h
      · rename_i hg
        rw [Bool.and_eq_true] at hg
        obtain ⟨dd, e1, rfl⟩ := Option.map_eq_some_iff.mp h
        obtain ⟨v, u, h1, h2, h3⟩ := G.cst nm dd e1
        exact h_cst (pe_glob (glo_okC G hg.1) h1 h2 (nm_ok hg.2).1) h3
      · cases h
  · obtain ⟨dd, e1, rfl⟩ := Option.map_eq_some_iff.mp h
    obtain ⟨v, h1, h2, _⟩ := const_ok (X := X) (Γ := Γ) e1
    exact h_cst h1 h2
  · -- tuples
    split at h
    · rename_i hl
      rw [Bool.and_eq_true, decide_eq_true_eq] at hl
      obtain ⟨xs, e1, rfl⟩ := Option.map_eq_some_iff.mp h
      exact h_tup (by rw [← mapM_len e1]; exact hl.1) (args_ok S G hl.2 e1)
    · cases h
  · -- lists
    split at h
    · rename_i hl
      rw [Bool.and_eq_true, decide_eq_true_eq] at hl
      obtain ⟨xs, e1, rfl⟩ := Option.map_eq_some_iff.mp h
      split
      · exact h_new (by rw [← mapM_len e1]; exact hl.1) (args_ok S G hl.2 e1)
      · exact h_lst (by rw [← mapM_len e1]; exact hl.1) (args_ok S G hl.2 e1)
    · cases h
  · -- dicts
    rename_i keys values pos
    split at h
    · rename_i ks vs ed
      split at h
      · rename_i hl
        rw [Bool.and_eq_true, Bool.and_eq_true, decide_eq_true_eq, decide_eq_true_eq] at hl
        cases h
        obtain ⟨kvs, hd⟩ := dic_ok (X := X) (Γ := Γ) ed
        exact h_dic hd (fun z => by
          rw [z] at hl
          exact absurd hl.1.1 (by simp)) hl.1.2 hl.2
      · cases h
    · cases h
  · obtain ⟨y, z, e1, e2, rfl⟩ := bind2 h
    exact h_bop G.calm.K (S.e G e1) (S.e G e2)
  · obtain ⟨y, e1, rfl⟩ := Option.map_eq_some_iff.mp h
    exact h_neg (S.e G e1)
  · obtain ⟨y, e1, rfl⟩ := Option.map_eq_some_iff.mp h
    exact h_not G.calm.K (S.e G e1)
  · split at h
    · cases h
    · rename_i hm
      obtain ⟨y, z, e1, e2, rfl⟩ := bind2 h
      exact h_cmp G.cmp3 (by simpa using hm) (S.e G e1) (S.e G e2)
  · split at h
    · cases h
    · rename_i hm
      obtain ⟨y, z, w, e1, e2, e3, rfl⟩ := bind3 h
      exact h_cmp2 G.cmp3 (by simpa using hm) (S.e G e1) (S.e G e2) (S.e G e3)
  · exact h_one (S.e G h)
  · obtain ⟨y, z, e1, e2, rfl⟩ := bind2 h
    exact h_and G.calm.K (S.e G e1) (S.e G e2)
  · obtain ⟨y, z, e1, e2, rfl⟩ := bind2 h
    exact h_or G.calm.K (S.e G e1) (S.e G e2)
  · obtain ⟨y, z, w, e1, e2, e3, rfl⟩ := bind3 h
    exact h_ife (S.t G e1) (S.e G e2) (S.e G e3)
  · -- slices
    obtain ⟨y, z, w, e1, e2, e3, rfl⟩ := bind3 h
    obtain ⟨a1, a2⟩ := part_ok S G e2
    obtain ⟨b1, b2⟩ := part_ok S G e3
    exact h_slc G.cmp3 (S.e G e1) a1 a2 b1 b2
  · split at h
    · cases h
    · rename_i hs
      obtain ⟨y, z, e1, e2, rfl⟩ := bind2 h
      exact h_sub G.cmp3 (plain_ix (by simpa using hs)) (S.e G e1) (S.e G e2)
  · obtain ⟨t, xi, xe, xf, L⟩ := lc_parts h0
    exact snd_lc S G L
  · exact snd_met S G h0
  · exact snd_call S G h0
  · cases h
/-- THE CLAIM -/
theorem snd (hz : ZipOk) : ∀ m, Snd gi m
  | 0 => by
    constructor
    · intro d c X Γ W kp P G e x h
      unfold trE at h
      cases h
    · intro d c X Γ W kp P G e x h
      unfold trT at h
      cases h
    · intro d c X Γ W kp P G op es pos x h
      unfold trT at h
      cases h
    · intro d c X Γ W kp P G e x tg h
      unfold trI at h
      cases h
  | m + 1 => ⟨fun G _ _ h => snd_e hz (snd hz m) G h, fun G _ _ h => (snd_t (snd hz m) G h).1, fun G op es pos _ h => (snd_t (snd hz m) G h).2 op es pos rfl, fun G _ _ _ h ht => snd_i hz (snd hz m) G h ht⟩
end
end Ev
set_option Elab.async false
set_option linter.all false
set_option autoImplicit false
set_option maxRecDepth 100000
set_option maxHeartbeats 16000000
/-! E24: the translation of statements. -/
namespace Ev
open PySem PySem.Spec PyProof.Rows L2 TL
def isLocal (c : Ct) (x : Str) : Bool := match c.sc.names.lookup x with
  | some .local => true
  | _ => false
/-- expressions of an except suite; nm: the error's name -/
def trX (gi : Gi) : Nat → Ct → Str → PySem.Expr → Option Ex
  | 0, _, _, _ => none
  | m + 1, c, nm, e => match e with
    | .Constant k _ _ => (constD k).map .cst
    | .Name x _ => (slotOf c x).map .var
    | .Attribute (.Name x _) f _ => if decide (x = nm) && decide (f = gi.fld) && plainNm nm then some (.exf 0) else none
    | .Call (.Name f _) [.Name x _, .Name cn _] [] _ => if decide (f = "isinstance") && decide (x = nm) && plainNm nm && isGlo c "isinstance" && gi.free.contains "isinstance" && isGlo c cn && plainNm cn then (idxOf cn gi.cls).map .exi else none
    | .Tuple es _ _ => if es.length ≤ 1000 && es.all (fun e => !isStar e) then (es.mapM (trX gi m c nm)).map .tup else none
    | .List es _ => if es.length ≤ 1000 && es.all (fun e => !isStar e) then (es.mapM (trX gi m c nm)).map .lst else none
    | _ => none
def trXs (gi : Gi) (c : Ct) (nm : Str) : Nat → Stmt → Option Sm
  | m, .Return (some e) _ => (trX gi m c nm e).map .ret
  | _, .Pass _ => some .pass
  | m, .Assign [.Name x _] e _ => if isComp e then none else (trX gi m c nm e).bind fun y => (stoOf c x).map fun i => .asg (.nm i) y
  | _, _ => none
def parOk (px py : Pos) (a b : PySem.Expr) : Bool := (py.line == px.line) && !isStar a && !isStar b && !([a, b].all (foldedForSure 8)) && !([a, b].all (constantsAlone 8))
def trS (gi : Gi) : Nat → Ct → Stmt → Option Sm
  | 0, _, _ => none
  | m + 1, c, s => match s with
    | .Expr (.Constant (.str _) _ _) _ => some .pass
    | .Expr e _ => if isComp e then none else (trE gi m c e).map .expr
    | .Pass _ => some .pass
    | .Break _ => some .brk
    | .Continue _ => some .cnt
    | .Return none _ => some (.ret (.cst .non))
    | .Return (some e) _ => (trE gi m c e).map .ret
    | .Assign [.Name x px] (.ListComp elt [⟨tg, it, ifs, 0⟩] scope lp) _ => if isLocal c x && (px.line == lp.line) && !(scope.names.any fun (n, k) => n == x && (k == .local || k == .cell)) then
        (trE gi m c (.ListComp elt [⟨tg, it, ifs, 0⟩] scope lp)).bind fun y => (stoOf c x).map fun i => .asg (.nm i) y else none
    | .Assign [.Tuple [.Name x px, .Name y py] _ _] (.Tuple [a, b] _ _) _ => if isLocal c x && isLocal c y && !decide (x = y) && parOk px py a b then
        (stoOf c x).bind fun i => (stoOf c y).bind fun j => (trE gi m c a).bind fun xa => (trE gi m c b).map fun xb => .par i j xa xb else none
    | .Assign [.Tuple [.Subscript o i _, .Name nm _] _ _] e _ => if isComp e || isTup e then none else (trE gi m c e).bind fun x => (trE gi m c o).bind fun xo => (trE gi m c i).bind fun xi => (stoOf c nm).map fun s => .asub2 xo xi s x
    | .Assign [.Subscript o i _] e _ => if isComp e then none else (trE gi m c e).bind fun x => (trE gi m c o).bind fun xo => (trE gi m c i).map fun xi => .asub xo xi x
    | .Assign [tg] e _ => if isComp e || (isTup tg && isTup e) then none else (trE gi m c e).bind fun x => (trG c m tg).map fun t => .asg t x
    | .AugAssign (.Name x _) op e _ => (match op with
        | .Add => (trE gi m c e).bind fun y => (stoOf c x).map fun i => .aug i .Add y
        | .Sub => (trE gi m c e).bind fun y => (stoOf c x).map fun i => .aug i .Sub y
        | _ => none)
    | .If t a b _ => (trT gi m c t).bind fun z => (a.mapM (trS gi m c)).bind fun x => (b.mapM (trS gi m c)).map fun y => .iff z x y
    | .For tg it body [] _ => if isSet it then none else (trI gi m c it).bind fun x => (trG c m tg).bind fun t => if zipTg x t then (body.mapM (trS gi m c)).map fun y => .for_ t x y else none
    | .While t body [] _ => (trT gi m c t).bind fun z => (body.mapM (trS gi m c)).map fun y => .whl z y
    | .Raise (some (.Call (.Name cn _) [e] [] _)) none _ => if isGlo c cn && plainNm cn && !isStar e then (idxOf cn gi.cls).bind fun k => (trE gi m c e).map fun x => .rai k [x] else none
    | .Try body [.ExceptHandler (some (.Name cn _)) (some nm) (b0 :: suite) _] [] [] _ => if isGlo c cn && plainNm cn && isLocal c nm then
        (stoOf c nm).bind fun i => (idxOf cn gi.cls).bind fun k => (body.mapM (trS gi m c)).bind fun x => ((b0 :: suite).mapM (trXs gi { c with pin := i :: c.pin, thk := none, lam := false } nm m)).map fun y => .try_ x k (some i) y else none
    | _ => none
/-! ### what statements ask -/
structure GoodS (gi : Gi) (d : Nat) (c : Ct) (X : Cx) (Γ : Gd) (W : WX) (kp : Keep) (P : Pg) : Prop extends Good gi d c X Γ W kp P where
  own : PassesOwn (model X.prog X.w) X.A X.env X.xe
  stk : X.stack = X.env :: X.outer
  frm : X.env.frame = some X.env.locals
  knd : X.env.scope.kind = .function
  xok : XOk X Γ P.sub gi.fld
  cls : ∀ cn k, idxOf cn gi.cls = some k → X.mg cn = some (.ref (Γ.ca k)) ∧ OexC X.K (Γ.ca k)
  ini : ∀ cn k, idxOf cn gi.cls = some k → ∃ fI fd ps, PySem.W.findIn X.K (.ref (Γ.ca k)) "__init__" = some (some (.ref fI)) ∧ PySem.W.typeIn X.K (.ref fI) = some (.type "function") ∧ FnOk X.prog X.w X.K X.mg X.base C8.CX0 1 fI fd ps (InitSp X.K gi.fld) ∧ L2.Binds X.K fd ps [] ∧ Room 2 X.A
  thkT : ∀ a, c.thk = some a → ∀ (pn : List (Addr × Obj)) (xe : Value → Shared → Prop) (W' : WX), Takes (X.tr pn xe) W' → ∀ p1 p2, PE (X.tr pn xe) (.Call (.Name a p1) [] [] p2) (tThk Γ W' kp P.thk)
section
variable {gi : Gi} {d : Nat} {c : Ct} {X : Cx} {Γ : Gd} {W : WX} {kp : Keep} {P : Pg}
theorem GoodS.tr (G : GoodS gi d c X Γ W kp P) {W' : WX} {pn : List (Addr × Obj)} {xe : Value → Shared → Prop} (tk : Takes (X.tr pn xe) W') (po : PassesOwn (model X.prog X.w) X.A X.env xe) : GoodS gi d c (X.tr pn xe) Γ W' kp P where
  N := G.N
  nd := G.nd
  sc := G.sc
  fn := G.fn
  calm := ⟨G.calm.K, G.calm.w, G.calm.hu, G.calm.hh, G.calm.hd⟩
  guard := G.guard
  room := G.room
  tk := tk
  pin := G.pin
  cst := G.cst
  free := G.free
  fns := G.fns
  thk := fun a h => G.thkT a h pn xe W' tk
  lam := fun h => ⟨(G.lam h).tab, (G.lam h).room, (G.lam h).give⟩
  own := po
  stk := G.stk
  frm := G.frm
  knd := G.knd
  xok := ⟨G.xok.cf, G.xok.xf, G.xok.no, G.xok.exm, G.xok.kit, G.xok.ecc⟩
  cls := G.cls
  ini := G.ini
  thkT := fun a h pn2 xe2 W2 tk2 => G.thkT a h pn2 xe2 W2 tk2
/-- the claim for statements -/
structure SndS (gi : Gi) (m : Nat) : Prop where
  s : ∀ {d c X Γ W kp P} (G : GoodS gi d c X Γ W kp P) {st : Stmt} {x : Sm}, trS gi m c st = some x → HvS X Γ W kp P st x
theorem SndS.ss {m : Nat} (S : SndS gi m) (G : GoodS gi d c X Γ W kp P) : ∀ {sts : List Stmt} {xs : List Sm}, sts.mapM (trS gi m c) = some xs → HvSs X Γ W kp P sts xs
  | [], xs, h => by
    cases h
    exact ss_nil
  | st :: sts, xs, h => by
    rw [List.mapM_cons] at h
    obtain ⟨x, e1, h⟩ := Option.bind_eq_some_iff.mp h
    obtain ⟨ys, e2, h⟩ := Option.bind_eq_some_iff.mp h
    cases h
    exact ss_cons (S.s G e1) (S.ss G e2)
theorem local_ok (G : Good gi d c X Γ W kp P) {x : Str} (h : isLocal c x = true) : X.env.scope.names.lookup x = some .local := by
  unfold isLocal at h
  rw [G.sc]
  split at h
  · assumption
  · cases h
theorem one_tgt {tg : PySem.Expr} (h : isStar tg = false) : (assignEach [tg] X.env).map (·.2) = [assign tg X.env] := by
  cases tg <;> first | rfl | (cases h; done)
theorem sole_no {e t : PySem.Expr} {l : Nat} {env : Env} (h : isComp e = false) : swapsWithSole [t] e l env = pure false := by
  show swapsWith e (some t) l env = pure false
  exact swaps_no h
/-! ### suites -/
section
variable {a : Addr} {oe : Obj} {pn : List (Addr × Obj)} {k i : Nat} {dd : Addr} {v : V} {dv : D} {nm : Str}
theorem snd_x (G : GoodS gi d c X Γ W kp P) (hN : X.N[i]? = some nm) (hv : Vis X.env.scope nm) (hz : Zc (.ref (Γ.ca k)) (some dd) oe) (hf : ∃ vs, oe.data = .fields vs) :
    ∀ {m : Nat} {e : PySem.Expr} {x : Ex}, trX gi m { c with pin := i :: c.pin, thk := none, lam := false } nm e = some x → Hv (X.suite a ((a, oe) :: pn)) Γ W0 (kpx kp i a dd [(gi.fld, v)] [dv] [v]) { P with exn := some (k, [dv]) } e x
  | 0, e, x, h => by
    unfold trX at h
    cases h
  | m + 1, e, x, h => by
    have args : ∀ {es : List PySem.Expr} {xs : List Ex}, es.all (fun e => !isStar e) = true → es.mapM (trX gi m { c with pin := i :: c.pin, thk := none, lam := false } nm) = some xs → HvA (X.suite a ((a, oe) :: pn)) Γ W0 (kpx kp i a dd [(gi.fld, v)] [dv] [v]) { P with exn := some (k, [dv]) } es xs := by
      intro es
      induction es with
      | nil =>
        intro xs _ h
        cases h
        exact a_nil
      | cons e es ih =>
        intro xs hs h
        rw [List.mapM_cons] at h
        obtain ⟨y, e1, h⟩ := Option.bind_eq_some_iff.mp h
        obtain ⟨ys, e2, h⟩ := Option.bind_eq_some_iff.mp h
        cases h
        rw [List.all_cons, Bool.and_eq_true] at hs
        exact a_cons (snd_x G hN hv hz hf e1) (ih hs.2 e2) (star_cons (by simpa using hs.1))
    unfold trX at h
    split at h
    · obtain ⟨d0, e1, rfl⟩ := Option.map_eq_some_iff.mp h
      obtain ⟨v1, h1, h2, _⟩ := const_ok (X := X.suite a ((a, oe) :: pn)) (Γ := Γ) e1
      exact h_cst h1 h2
    · rename_i nx _
      obtain ⟨j, e1, rfl⟩ := Option.map_eq_some_iff.mp h
      unfold slotOf at e1
      split at e1
      · rename_i hp
        rw [Bool.and_eq_true] at hp
        split at e1
        · rename_i j' ej
          split at e1
          · cases e1
          · cases e1
            have hvis : Vis X.env.scope nx := by
              rw [G.sc]
              exact vis_ok (c := c) hp.2
            exact h_var (X := X.suite a ((a, oe) :: pn)) (by
              show X.N[_]? = _
              rw [G.N]
              exact idxOf_get ej) hvis (nm_ok hp.1).1 (nm_ok hp.1).2
        · cases e1
      · cases e1
    · split at h
      · rename_i hp
        simp only [Bool.and_eq_true, decide_eq_true_eq] at hp
        obtain ⟨⟨rfl, rfl⟩, hp⟩ := hp
        cases h
        exact h_exf G.xok hz hf hN hv (nm_ok hp).1 (nm_ok hp).2
      · cases h
    · split at h
      · rename_i hp
        simp only [Bool.and_eq_true, decide_eq_true_eq] at hp
        obtain ⟨⟨⟨⟨⟨⟨rfl, rfl⟩, h1⟩, h2⟩, h3⟩, h4⟩, h5⟩ := hp
        obtain ⟨kc, e1, rfl⟩ := Option.map_eq_some_iff.mp h
        have gl : Gl X "isinstance" := glo_okC (c := c) G.toGood h2
        have gc := glo_okC (c := c) G.toGood h4
        exact h_exi G.xok hz hf hN hv (nm_ok h1).1 (nm_ok h1).2 gl (G.free _ h3) gc (G.cls _ _ e1).1 (nm_ok h5).1 rfl
      · cases h
    · split at h
      · rename_i hl
        rw [Bool.and_eq_true, decide_eq_true_eq] at hl
        obtain ⟨xs, e1, rfl⟩ := Option.map_eq_some_iff.mp h
        exact h_tup (by rw [← mapM_len e1]; exact hl.1) (args hl.2 e1)
      · cases h
    · split at h
      · rename_i hl
        rw [Bool.and_eq_true, decide_eq_true_eq] at hl
        obtain ⟨xs, e1, rfl⟩ := Option.map_eq_some_iff.mp h
        exact h_lst (by rw [← mapM_len e1]; exact hl.1) (args hl.2 e1)
      · cases h
    · cases h
theorem snd_xs (G : GoodS gi d c X Γ W kp P) (hN : X.N[i]? = some nm) (hv : Vis X.env.scope nm) (hz : Zc (.ref (Γ.ca k)) (some dd) oe) (hf : ∃ vs, oe.data = .fields vs) {m : Nat} :
    ∀ {sts : List Stmt} {xs : List Sm}, sts.mapM (trXs gi { c with pin := i :: c.pin, thk := none, lam := false } nm m) = some xs → HvSs (X.suite a ((a, oe) :: pn)) Γ W0 (kpx kp i a dd [(gi.fld, v)] [dv] [v]) { P with exn := some (k, [dv]) } sts xs
  | [], xs, h => by
    cases h
    exact ss_nil
  | st :: sts, xs, h => by
    rw [List.mapM_cons] at h
    obtain ⟨x, e1, h⟩ := Option.bind_eq_some_iff.mp h
    obtain ⟨ys, e2, h⟩ := Option.bind_eq_some_iff.mp h
    cases h
    refine ss_cons ?_ (snd_xs G hN hv hz hf e2)
    unfold trXs at e1
    split at e1
    · obtain ⟨y, e3, rfl⟩ := Option.map_eq_some_iff.mp e1
      exact s_ret (snd_x G hN hv hz hf e3)
    · cases e1
      exact s_pass
    · split at e1
      · cases e1
      · rename_i hc
        obtain ⟨y, j, e3, e4, rfl⟩ := bind2 e1
        rw [Bool.not_eq_true] at hc
        unfold stoOf at e4
        split at e4
        · rename_i hl
          rw [Bool.and_eq_true] at hl
          split at e4
          · rename_i j' ej
            split at e4
            · cases e4
            · rename_i hp
              cases e4
              refine s_asg (snd_x G hN hv hz hf e3) (g_name (X := X.suite a ((a, oe) :: pn)) ?_ ?_ ?_ ?_ ?_) (sole_no hc) (stores_no rfl) rfl
              · show X.N.Nodup
                rw [G.N]
                exact G.nd
              · show X.N[_]? = _
                rw [G.N]
                exact idxOf_get ej
              · show L2.Loc X.env.scope _
                rw [G.sc]
                exact loc_ok (c := c) hl.1
              · exact G.fn _ hl.2
              · intro q hq z
                have hq : q ∈ (i, V.ref a) :: kp.sl := hq
                rcases List.mem_cons.mp hq with e | hq
                · rw [e] at z
                  exact hp (List.contains_iff_mem.mpr (by rw [← z]; exact List.mem_cons_self ..))
                · have := G.pin q hq
                  rw [z] at this
                  exact hp (List.contains_iff_mem.mpr (List.mem_cons_of_mem _ (List.contains_iff_mem.mp this)))
          · cases e4
        · cases e4
    · cases e1
end
end
end Ev
set_option Elab.async false
set_option linter.all false
set_option autoImplicit false
set_option maxRecDepth 100000
set_option maxHeartbeats 16000000
/-! E25: the translation is sound: statements. -/
namespace Ev
open PySem PySem.Spec PyProof.Rows L2 TL
section
variable {gi : Gi} {d : Nat} {c : Ct} {X : Cx} {Γ : Gd} {W : WX} {kp : Keep} {P : Pg}
theorem bind4 {α β δ ε γ : Type} {o : Option α} {p : Option β} {q : Option δ} {r : Option ε} {f : α → β → δ → ε → γ} {z : γ} (h : (o.bind fun x => p.bind fun y => q.bind fun w => r.map fun v => f x y w v) = some z) : ∃ x y w v, o = some x ∧ p = some y ∧ q = some w ∧ r = some v ∧ z = f x y w v := by
  obtain ⟨x, e1, h⟩ := Option.bind_eq_some_iff.mp h
  obtain ⟨y, e2, h⟩ := Option.bind_eq_some_iff.mp h
  obtain ⟨w, e3, h⟩ := Option.bind_eq_some_iff.mp h
  obtain ⟨v, e4, h⟩ := Option.map_eq_some_iff.mp h
  exact ⟨x, y, w, v, e1, e2, e3, e4, h.symm⟩
theorem blockKind_fn (G : GoodS gi d c X Γ W kp P) : X.env.blockKind = .function := by
  unfold Env.blockKind
  rw [G.knd]
  rfl
theorem swapped_two (G : GoodS gi d c X Γ W kp P) {x y : Str} {px py pt pt2 : Pos} {kt k2 : Nat} {a b : PySem.Expr} (hx : X.env.scope.names.lookup x = some .local) (hy : X.env.scope.names.lookup y = some .local) (hne : x ≠ y) (hp : parOk px py a b = true) :
    swappedStores [.Tuple [.Name x px, .Name y py] kt pt] (.Tuple [a, b] k2 pt2) X.env = pure (some [x, y]) := by
  unfold parOk at hp
  simp only [Bool.and_eq_true, Bool.not_eq_true', beq_iff_eq] at hp
  obtain ⟨⟨⟨⟨h1, h2⟩, h3⟩, h4⟩, h5⟩ := hp
  have kx : X.env.kindOf x = some .local := hx
  have ky : X.env.kindOf y = some .local := hy
  have hb := blockKind_fn G
  have hd : [x, y].eraseDups = [x, y] := by
    simp [List.eraseDups_cons, hne, Ne.symm hne]
  have hcond : ¬ ((isStar a || (isStar b || false)) = true) := by
    rw [h2, h3]
    decide
  unfold swappedStores
  simp only [hb, kx, ky, List.any_cons, List.any_nil, List.filterMap_cons, List.filterMap_nil, List.head?_cons, Option.map_some, Option.getD_some, Expr.pos, h1, h4, h5, hd, List.length_cons, List.length_nil, beq_self_eq_true, Bool.and_self, if_true, Bool.false_eq_true, if_false]
  exact (if_neg (by decide)).trans ((if_neg hcond).trans (if_neg (by simp)))
theorem not_slice {m : Nat} {i : PySem.Expr} {x : Ex} (h : trE gi m c i = some x) : isSlice i = false := by
  cases m with
  | zero =>
    unfold trE at h
    cases h
  | succ m =>
    cases i <;> first | rfl | skip
    unfold trE at h
    cases h
theorem subT_ok {o i : PySem.Expr} {tp : Pos} (h : isSlice i = false) : SubT X o i tp := by
  intro v
  cases i <;> first | rfl | (cases h; done)
theorem snd_s (hz : ZipOk) {m : Nat} (S : SndS gi m) (G : GoodS gi d c X Γ W kp P) {st : Stmt} {x : Sm} (h : trS gi (m + 1) c st = some x) : HvS X Γ W kp P st x := by
  have E := snd (gi := gi) hz m
  have GG := G.toGood
  unfold trS at h
  split at h
  · cases h
    exact s_doc
  · split at h
    · cases h
    · rename_i hc
      rw [Bool.not_eq_true] at hc
      obtain ⟨y, e1, rfl⟩ := Option.map_eq_some_iff.mp h
      exact s_expr (E.e GG e1) (swaps_no hc)
  · cases h
    exact s_pass
  · cases h
    exact s_brk
  · cases h
    exact s_cnt
  · cases h
    exact s_retN
  · obtain ⟨y, e1, rfl⟩ := Option.map_eq_some_iff.mp h
    exact s_ret (E.e GG e1)
  · -- x = [..]
    rename_i nm px elt tg it ifs scope lp spos
    split at h
    · rename_i hl
      rw [Bool.and_eq_true, Bool.and_eq_true, Bool.not_eq_true'] at hl
      obtain ⟨⟨l1, l2⟩, l3⟩ := hl
      obtain ⟨y, i, e1, e2, rfl⟩ := bind2 h
      cases m with
      | zero =>
        unfold trE at e1
        cases e1
      | succ m =>
        have E' := snd (gi := gi) hz m
        obtain ⟨t, xi, xe, xf, L⟩ := lc_parts e1
        obtain ⟨rfl, h1, h2, h3, h4, h5, h6, h6z, h7, h8⟩ := L
        have hb : BlkOk X.N X.env.scope scope (ownOf c.N scope.names) := by
          rw [GG.N, GG.sc]
          exact blkOk_by h2
        obtain ⟨q1, q2, q3, q4⟩ := sto_ok GG e2
        have hloc := local_ok GG l1
        exact s_setLc GG.calm.hh (by rw [GG.N]; exact GG.nd) q1 hloc (sw_true G.knd hloc l2 l3) q4 (E'.i GG h4 (it_tg h5 h6z)) hb
          (fun s H C cl fp => tg_ok (P := P) (GG.blk s H scope C cl fp trivial) h5)
          (fun s H C cl fp => lc_ifs E' (GG.blk s H scope C cl fp trivial) h7)
          (fun s H C cl fp => E'.e (GG.blk s H scope C cl fp trivial) h8)
          (fold_no h1) (fun j hj => List.contains_iff_mem.mp (List.all_eq_true.mp h6 j hj)) (own_ok GG h3)
    · cases h
  · -- x, y = a, b
    split at h
    · rename_i hl
      rw [Bool.and_eq_true, Bool.and_eq_true, Bool.and_eq_true, Bool.not_eq_true', decide_eq_false_iff_not] at hl
      obtain ⟨⟨⟨l1, l2⟩, l3⟩, l4⟩ := hl
      obtain ⟨i, j, xa, xb, e1, e2, e3, e4, rfl⟩ := bind4 h
      obtain ⟨q1, q2, q3, q4⟩ := sto_ok GG e1
      obtain ⟨r1, r2, r3, r4⟩ := sto_ok GG e2
      have lx := local_ok GG l1
      have ly := local_ok GG l2
      have hij : i ≠ j := fun z => by
        rw [z, r1] at q1
        exact l3 (Option.some.inj q1).symm
      have hp := l4
      unfold parOk at hp
      simp only [Bool.and_eq_true, Bool.not_eq_true'] at hp
      obtain ⟨⟨⟨⟨_, sa⟩, sb⟩, _⟩, _⟩ := hp
      exact s_par GG.calm.hh (by rw [GG.N]; exact GG.nd) q1 r1 hij lx ly (E.e GG e3) (E.e GG e4) (star_cons sa) (star_cons sb) q4 r4 (swapped_two G lx ly l3 l4) (sole_no rfl)
    · cases h
  · -- o[i], x = e
    split at h
    · cases h
    · rename_i hc
      rw [Bool.not_eq_true, Bool.or_eq_false_iff] at hc
      obtain ⟨y, yo, yi, s, e1, e2, e3, e4, rfl⟩ := bind4 h
      obtain ⟨q1, q2, q3, q4⟩ := sto_ok GG e4
      exact s_asub2 GG.calm.K GG.calm.hh (by rw [GG.N]; exact GG.nd) q1 q2 q3 q4 (E.e GG e1) (E.e GG e2) (E.e GG e3) (subT_ok (not_slice e3)) (sole_no hc.1) (stores_no (by rw [hc.2]; exact Bool.and_false _)) rfl
  · -- o[i] = e
    split at h
    · cases h
    · rename_i hc
      rw [Bool.not_eq_true] at hc
      obtain ⟨y, yo, yi, e1, e2, e3, rfl⟩ := bind3 h
      exact s_asub (E.e GG e1) (E.e GG e2) (E.e GG e3) (subT_ok (not_slice e3)) (sole_no hc) (stores_no rfl) rfl
  · -- tg = e
    split at h
    · cases h
    · rename_i hc
      rw [Bool.not_eq_true, Bool.or_eq_false_iff] at hc
      obtain ⟨y, t, e1, e2, rfl⟩ := bind2 h
      refine s_asg (E.e GG e1) (tg_ok (P := P) GG e2) (sole_no hc.1) (stores_no hc.2) (one_tgt ?_)
      cases m with
      | zero =>
        unfold trG at e2
        cases e2
      | succ m =>
        unfold trG at e2
        split at e2
        · rfl
        · rfl
        · cases e2
  · -- x += e
    split at h
    · obtain ⟨y, i, e1, e2, rfl⟩ := bind2 h
      obtain ⟨q1, q2, q3, q4⟩ := sto_ok GG e2
      exact s_aug (.inl rfl) (by rw [GG.N]; exact GG.nd) q1 q2 q3 q4 (E.e GG e1)
    · obtain ⟨y, i, e1, e2, rfl⟩ := bind2 h
      obtain ⟨q1, q2, q3, q4⟩ := sto_ok GG e2
      exact s_aug (.inr rfl) (by rw [GG.N]; exact GG.nd) q1 q2 q3 q4 (E.e GG e1)
    · cases h
  · obtain ⟨z, y, w, e1, e2, e3, rfl⟩ := bind3 h
    exact s_if (E.t GG e1) (S.ss G e2) (S.ss G e3)
  · -- for
    split at h
    · cases h
    · rename_i hs
      rw [Bool.not_eq_true] at hs
      obtain ⟨y, e1, h⟩ := Option.bind_eq_some_iff.mp h
      obtain ⟨t, e2, h⟩ := Option.bind_eq_some_iff.mp h
      split at h
      · rename_i hzt
        obtain ⟨w, e3, rfl⟩ := Option.map_eq_some_iff.mp h
        exact s_for G.own GG.calm.hh (E.i GG e1 (it_tg e2 hzt)) (tg_ok (P := P) GG e2) (S.ss G e3) (fold_no hs)
      · cases h
  · obtain ⟨z, y, e1, e2, rfl⟩ := bind2 h
    exact s_while G.own (E.t GG e1) (S.ss G e2)
  · -- raise
    rename_i cn p e cpos pos
    split at h
    · rename_i hl
      rw [Bool.and_eq_true, Bool.and_eq_true, Bool.not_eq_true'] at hl
      obtain ⟨⟨l1, l2⟩, l3⟩ := hl
      obtain ⟨k, y, e1, e2, rfl⟩ := bind2 h
      obtain ⟨c1, c2⟩ := G.cls cn k e1
      obtain ⟨fI, fd, ps, i1, i2, i3, i4, i5⟩ := G.ini cn k e1
      have sc : starEach [e] X.env = (false, eval e X.env) :: starEach [] X.env := star_cons l3
      refine s_rai GG.calm.hh GG.tk G.xok c2 rfl fun n => ?_
      exact pmk_oex c2 i1 i2 i3 i5 i4 .nil C8.pass0 (glo_okC GG l1) c1 (a_cons (E.e GG e2) a_nil sc n) (nm_ok l2).1 sc rfl
    · cases h
  · -- try
    rename_i body cn np nm b0 suite pos' pos
    split at h
    · rename_i hl
      rw [Bool.and_eq_true, Bool.and_eq_true] at hl
      obtain ⟨⟨l1, l2⟩, l3⟩ := hl
      obtain ⟨i, e1, h⟩ := Option.bind_eq_some_iff.mp h
      obtain ⟨k, e2, h⟩ := Option.bind_eq_some_iff.mp h
      obtain ⟨xb, e3, h⟩ := Option.bind_eq_some_iff.mp h
      obtain ⟨xs, e4, rfl⟩ := Option.map_eq_some_iff.mp h
      obtain ⟨q1, q2, q3, q4⟩ := sto_ok GG e1
      obtain ⟨c1, c2⟩ := G.cls cn k e2
      have lnm := local_ok GG l3
      exact s_try_as G.xok rfl G.stk G.frm (by rw [GG.N]; exact GG.nd) q1 lnm ⟨glo_okC GG l1, (nm_ok l2).1, .inl c1⟩ GG.tk q4
        (fun W' pn xe tk po => S.ss (G.tr tk po) e3)
        (fun a oe k dd v dv pn hz hf => snd_xs G q1 (.inl lnm) hz hf e4)
    · cases h
  · cases h
theorem sndS (hz : ZipOk) : ∀ m, SndS gi m
  | 0 => by
    constructor
    intro d c X Γ W kp P G st x h
    unfold trS at h
    cases h
  | m + 1 => ⟨fun G _ _ h => snd_s hz (sndS hz m) G h⟩
end
end Ev
set_option Elab.async false
set_option linter.all false
set_option autoImplicit false
set_option maxRecDepth 100000
set_option maxHeartbeats 16000000
/-! E26: a program: each def does what the evaluator says, at each depth. -/
namespace Ev
open PySem PySem.Spec PyProof.Rows L2 TL
/-- the block of a def -/
def ctOf (fi : FI) (N : List Str) (scope : Scope) (lam : Bool) : Ct := { N := N, sc := scope, own := none, pin := if fi.thk then [0] else [], g := fi.g, thk := if fi.thk then fi.ps.head? else none, lam := lam }
/-- what the head and the translation give of a def -/
structure DefOk (gi : Gi) (K : PySem.W.Frag) (mg : Str → Option Value) (base : Heap) (Γ : Gd) (G : Prg) (i : Nat) (fi : FI) (f : Addr) (fd : FuncData) : Prop where
  ex : ∃ (params : Arguments) (body : List Stmt) (scope : Scope) (dV kV doc pm cdv ct oc : Value) (an od : Option Addr) (osl : Array (Option Value)) (N : List Str) (lam : Bool) (m : Nat) (ir : List Sm),
    fd = PySem.W.fnOf fi.name fi.name params body scope dV kV doc pm an cdv ct ∧ mg fi.name = some (.ref f) ∧ PySem.W.keepIn K (.ref f) = true ∧ K.lookup f = some ⟨oc, od, .func fd, osl⟩ ∧ PySem.W.codeIn K cdv fi.name = true ∧ FnScope N fi.ps scope ∧
      body.mapM (trS gi m (ctOf fi N scope lam)) = some ir ∧ G.fns i = some ⟨fi.ps.length, N.length, ir⟩ ∧
      (lam = true → ∃ cc Pt, LamX.TabB base mg cc Pt ∧ cdv = .ref cc ∧ (∀ (L : Addr), (Pt, (envOfC fi.name scope L f cdv).qual ++ "<lambda>") ∈ Γ.T ∧ ∀ p ∈ Γ.T, p.1 = Pt → p.2 = (envOfC fi.name scope L f cdv).qual ++ "<lambda>"))
  pos : BndX K fd fi.ps fi.ps.length [] []
  kws : ∀ q ∈ fi.kw, BndX K fd fi.ps q.1 q.2.1 q.2.2
  thk : fi.thk = true → fi.g = false ∧ ∃ a, fi.ps = [a] ∧ plainNm a = true ∧ L2.Binds K fd [a] []
/-- the module -/
structure Mdl (gi : Gi) (P : Program) (w : World) (K : PySem.W.Frag) (mg : Str → Option Value) (base : Heap) (Γ : Gd) (G : Prg) : Prop where
  eK : Γ.K = K
  ew : Γ.w = w
  cst : ∀ x dd, gi.cst.lookup x = some dd → ∃ v u, mg x = some u ∧ RelV v u ∧ ∀ ρ H, Rel Γ ρ H dd v
  free : ∀ x, gi.free.contains x = true → mg x = none
  xok : ∀ X : Cx, X.K = K → XOk X Γ G.sub gi.fld
  cls : ∀ cn k, idxOf cn gi.cls = some k → mg cn = some (.ref (Γ.ca k)) ∧ OexC K (Γ.ca k)
  ini : ∀ cn k, idxOf cn gi.cls = some k → ∃ fI fd ps, PySem.W.findIn K (.ref (Γ.ca k)) "__init__" = some (some (.ref fI)) ∧ PySem.W.typeIn K (.ref fI) = some (.type "function") ∧ FnOk P w K mg base C8.CX0 1 fI fd ps (InitSp K gi.fld) ∧ L2.Binds K fd ps []
  defs : ∀ i fi, gi.fns[i]? = some fi → ∃ f fd, DefOk gi K mg base Γ G i fi f fd
/-- at the depth d -/
structure AllOk (gi : Gi) (P : Program) (w : World) (K : PySem.W.Frag) (mg : Str → Option Value) (base : Heap) (Γ : Gd) (G : Prg) (d : Nat) : Prop where
  fns : ∀ i fi f fd, gi.fns[i]? = some fi → fi.thk = false → DefOk gi K mg base Γ G i fi f fd → FnX P w K mg base fi.g (3 * d) f fd fi.ps (SpD Γ (callD G d) i)
  give : ∀ (X : Cx) (Q : Pg) i fi, X.prog = P → X.w = w → X.K = K → X.mg = mg → X.base = base → Q.lam = lamD G d → gi.fns[i]? = some fi → fi.thk = true → GiveX X Γ Q d i fi
section
variable {gi : Gi} {P : Program} {w : World} {K : PySem.W.Frag} {mg : Str → Option Value} {base : Heap} {Γ : Gd} {G : Prg}
theorem okS_end {E : XK} {kp : Keep} {ρ : Loc} {H : Hp} {r : RS} {Q : VK} (h : okG Γ E ρ H (endOf r) (kV' Γ Q)) : okS Γ (fun cls d _ H => E cls d H) kp ρ H r { nx := fun _ H' => Q .non H', rt := Q } := by
  cases r with
  | ok f env S =>
    cases f with
    | nx => exact fun ρ' H' σ x m e => (show okG Γ E ρ H (.ok .non S) (kV' Γ Q) from h) ρ' H' x m _ rel_non
    | ret d => exact fun ρ' H' σ x m e => (show okG Γ E ρ H (.ok d S) (kV' Γ Q) from h) ρ' H' x m
    | brk => exact (show False from h).elim
    | cnt => exact (show False from h).elim
  | exc c fs env S => exact fun ρ' H' σ cls d x m e xr => (show okG Γ E ρ H (.exc c fs S) (kV' Γ Q) from h) ρ' H' cls d x m xr
  | bad => exact (show False from h).elim
theorem relL_at {ρ : Loc} {H : Hp} : ∀ {ds : List D} {vs : List V} {i : Nat} {d : D}, RelL Γ ρ H ds vs → ds[i]? = some d → ∃ v, vs[i]? = some v ∧ Rel Γ ρ H d v := fun h e => h.get e
theorem start_env {ρ : Loc} {H : Hp} {ds : List D} {vs : List V} {N : List Str} (h : RelL Γ ρ H ds vs) (hl : ds.length ≤ N.length) : EnvR Γ ρ H ⟨[], [], []⟩ (ds.map some ++ List.replicate (N.length - ds.length) none) (L2.start N vs) where
  len := by
    unfold L2.start
    rw [List.length_append, List.length_append, List.length_map, List.length_map, List.length_replicate, List.length_replicate, h.length]
  get := fun i d z => by
    by_cases hi : i < ds.length
    · rw [List.getElem?_append_left (by rw [List.length_map]; exact hi), List.getElem?_map] at z
      cases e : ds[i]? with
      | none =>
        rw [e] at z
        cases z
      | some d' =>
        rw [e] at z
        cases z
        obtain ⟨v, e1, r⟩ := h.get e
        refine ⟨v, ?_, r⟩
        unfold L2.start
        rw [List.getElem?_append_left (by rw [List.length_map, ← h.length]; exact hi), List.getElem?_map, e1]
        rfl
    · rw [List.getElem?_append_right (by rw [List.length_map]; omega), List.getElem?_replicate] at z
      split at z <;> cases z
  sl := fun p hp => absurd hp (by simp)
  hp := fun p hp => absurd hp (by simp)
  vl := fun p hp => absurd hp (by simp)
/-- the facts of a def's body -/
theorem goodS_def (M : Mdl gi P w K mg base Γ G) {d : Nat} (A0 : AllOk gi P w K mg base Γ G d) {fi : FI} {N : List Str} {scope : Scope} {lam : Bool} {f : Addr} {cdv : Value} {A : Around} {outer : List Env} {s : Shared} {H : Hp} {E : XK} {kp : Keep} {th : Sto → R D}
    (S : FnScope N fi.ps scope) (hr : Room (3 * d + 2) (A.deeper (envOfC fi.name scope s.heap.objs.size f cdv))) (hA : fi.g = true → A.guards = some [])
    (hl : lam = true → ∃ cc Pt, LamX.TabB base mg cc Pt ∧ cdv = .ref cc ∧ (∀ (L : Addr), (Pt, (envOfC fi.name scope L f cdv).qual ++ "<lambda>") ∈ Γ.T ∧ ∀ p ∈ Γ.T, p.1 = Pt → p.2 = (envOfC fi.name scope L f cdv).qual ++ "<lambda>"))
    (hp : ∀ q ∈ kp.sl, (if fi.thk then [0] else []).contains q.1 = true)
    (ht : ∀ a, (if fi.thk then fi.ps.head? else none) = some a → ∀ (pn : List (Addr × Obj)) (xe : Value → Shared → Prop) (W' : WX), Takes ((cxOf (L2.CX P w) P w K mg base N fi.name scope f cdv A outer s H E).tr pn xe) W' → ∀ p1 p2, PE ((cxOf (L2.CX P w) P w K mg base N fi.name scope f cdv A outer s H E).tr pn xe) (.Call (.Name a p1) [] [] p2) (tThk Γ W' kp th)) :
    GoodS gi d (ctOf fi N scope lam) (cxOf (L2.CX P w) P w K mg base N fi.name scope f cdv A outer s H E) Γ (fun cls d _ H => E cls d H) kp ⟨callD G d, lamD G d, G.sub, th, none⟩ where
  N := rfl
  nd := S.nd
  sc := rfl
  fn := fun _ _ => .inl rfl
  calm := ⟨M.eK, M.ew, units_ok hr, rfl, hr.hd⟩
  guard := fun h => hA h
  room := hr.mono (by omega)
  tk := takes_of (E := E) (E₁ := fun e' s'' => L2.CX P w outer H s E e' s'') rfl rfl rfl rfl
  pin := hp
  cst := M.cst
  free := M.free
  fns := fun x i fi' ef ht' => by
    obtain ⟨eg, en⟩ := findF_get ef
    obtain ⟨f', fd', D'⟩ := M.defs i fi' eg
    obtain ⟨params, body, scope', dV, kV, doc, pm, cdv', ct, oc, an, od, osl, N', lam', m, ir, q1, q2, q3, q4⟩ := D'.ex
    exact ⟨f', fd', q2, q3, A0.fns i fi' f' fd' eg ht' D', D'.pos, D'.kws⟩
  thk := fun a h p1 p2 => ht a h [] _ _ (takes_of (X := cxOf (L2.CX P w) P w K mg base N fi.name scope f cdv A outer s H E) (E := E) (E₁ := fun e' s'' => L2.CX P w outer H s E e' s'') rfl rfl rfl rfl) p1 p2
  lam := fun h => ⟨by
    obtain ⟨cc, Pt, h1, h2, h3⟩ := hl h
    exact ⟨cc, Pt, h1, h2, (h3 s.heap.objs.size).1, (h3 s.heap.objs.size).2⟩, hr, fun x i fi' ef ht' => A0.give _ _ i fi' rfl rfl rfl rfl rfl rfl (findF_get ef).1 ht'⟩
  own := passes_of (K := fun e s'' => L2.CX P w outer H s E e s'') (E₁ := fun e' s'' => L2.CX P w outer H s E e' s'') rfl
  stk := rfl
  frm := rfl
  knd := S.kind
  xok := M.xok _ rfl
  cls := M.cls
  ini := fun cn k e => by
    obtain ⟨fI, fd, ps, h1, h2, h3, h4⟩ := M.ini cn k e
    exact ⟨fI, fd, ps, h1, h2, h3, h4, hr.mono (by omega)⟩
  thkT := ht
theorem scope_len {N ps : List Str} {scope : Scope} (S : FnScope N ps scope) : ps.length ≤ N.length := by
  have := congrArg List.length S.pre
  rw [List.length_take] at this
  omega
theorem allOk (hz : ZipOk) (M : Mdl gi P w K mg base Γ G) : ∀ d, AllOk gi P w K mg base Γ G d
  | 0 => by
    refine ⟨fun i fi f fd e1 e2 D0 => ⟨fun vs H Q E ⟨ρ, S, ds, m, r, h⟩ => ?_, fun A outer s H args us vs Q E _ _ _ _ _ ⟨ρ, S, ds, m, r, h⟩ => ?_⟩, fun X Q i fi x1 x2 x3 x4 x5 hQ e1 e2 => ?_⟩
    · unfold callD at h
      exact (show False from h).elim
    · unfold callD at h
      exact (show False from h).elim
    · obtain ⟨f, fd, D0⟩ := M.defs i fi e1
      obtain ⟨params, body, scope, dV, kV, doc, pm, cdv, ct, oc, an, od, osl, N, lam, m, ir, rfl, q2, q3, q4, q5, q6, q7, q8, q9⟩ := D0.ex
      obtain ⟨_, a, ha, hn, hb⟩ := D0.thk e2
      subst x3 x4
      refine ⟨f, params, body, scope, dV, kV, doc, pm, cdv, ct, oc, an, od, osl, N, a, q2, q3, q4, q5, hb, by rw [← ha]; exact q6, ?_, ?_, hn, ?_⟩
      · have := q6.pre
        rw [ha] at this
        cases N with
        | nil => cases this
        | cons n N => cases this; rfl
      · rcases q6.par a (by rw [ha]; exact List.mem_singleton.mpr rfl) with z | z
        · exact .inl z
        · exact .inr (.inl z)
      · intro s H f c' E Q' th kpf ρ S _ _ _ _ _ _ h
        rw [hQ] at h
        unfold lamD at h
        exact (show False from h).elim
  | d + 1 => by
    have A0 := allOk hz M d
    refine ⟨fun i fi f fd e1 e2 D0 => ?_, fun X Q i fi x1 x2 x3 x4 x5 hQ e1 e2 => ?_⟩
    · obtain ⟨params, body, scope, dV, kV, doc, pm, cdv, ct, oc, an, od, osl, N, lam, m, ir, rfl, q2, q3, q4, q5, q6, q7, q8, q9⟩ := D0.ex
      refine ⟨fun vs H Q E ⟨ρ, S, ds, mm, r, h⟩ => ?_, fun A outer s H args us vs Q E hr hA e0 hb rv ⟨ρ, S, ds, mm, r, h⟩ => ?_⟩
      · unfold callD at h
        rw [q8] at h
        simp only at h
        split at h
        · rename_i hl
          rw [← r.length, hl]
        · exact (show False from h).elim
      · have h' := h
        unfold callD at h'
        rw [q8] at h'
        simp only at h'
        split at h'
        · rename_i hl
          have hl : ds.length = fi.ps.length := hl
          refine LamX.run_ofS (N := N) (ps := fi.ps) (us := us) (vs := vs) q4 q5 q6 (k := 3 * d + 2) hr e0 hb rv (by rw [← r.length, hl]) fun hr' => ?_
          have GS := goodS_def (kp := ⟨[], [], []⟩) (th := fun _ => .bad) M A0 (E := E) (outer := outer) (s := s) (H := H) q6 hr' hA q9 (fun q hq => absurd hq (by simp)) (fun a z => by
            rw [e2] at z
            cases z)
          refine ⟨_, (sndS hz m).ss GS q7 FUEL, ρ, S, _, start_env r (by rw [hl]; exact scope_len q6), mm, ?_⟩
          exact okS_end h'
        · exact (show False from h').elim
    · obtain ⟨f, fd, D0⟩ := M.defs i fi e1
      obtain ⟨params, body, scope, dV, kV, doc, pm, cdv, ct, oc, an, od, osl, N, lam, m, ir, rfl, q2, q3, q4, q5, q6, q7, q8, q9⟩ := D0.ex
      obtain ⟨hg, a, ha, hn, hb⟩ := D0.thk e2
      subst x1 x2 x3 x4 x5
      have hN0 : N[0]? = some a := by
        have := q6.pre
        rw [ha] at this
        cases N with
        | nil => cases this
        | cons n N => cases this; rfl
      refine ⟨f, params, body, scope, dV, kV, doc, pm, cdv, ct, oc, an, od, osl, N, a, q2, q3, q4, q5, hb, by rw [← ha]; exact q6, hN0, ?_, hn, ?_⟩
      · rcases q6.par a (by rw [ha]; exact List.mem_singleton.mpr rfl) with z | z
        · exact .inl z
        · exact .inr (.inl z)
      · intro s H ff c' E Q' th kpf ρ S hsl hthk hr mm hhp hvl h
        rw [hQ] at h
        unfold lamD at h
        rw [q8] at h
        simp only at h
        split at h
        · have GS := goodS_def (kp := kpf) (th := th) M A0 (E := E) (outer := X.stack) (s := s) (H := H) (A := X.A) q6 (hr.mono (by omega)) (fun z => by
            rw [hg] at z
            cases z) q9 (fun q hq => by
            rw [hsl] at hq
            rw [List.mem_singleton.mp hq, e2]
            rfl) (fun a' z pn xe W' tk p1 p2 => by
            rw [e2, ha] at z
            cases z
            exact hthk W' pn xe p1 p2 tk)
          refine ⟨_, (sndS hz m).ss GS q7 FUEL, ρ, S, _, ?_, mm, okS_end h⟩
          have h1 : 1 ≤ N.length := by
            have := scope_len q6
            rw [ha] at this
            exact this
          refine ⟨?_, fun j d0 z => ?_, fun p hp => ?_, hhp, hvl⟩
          · unfold L2.start
            simp only [List.length_append, List.length_map, List.length_replicate, List.length_cons, List.length_nil]
            omega
          · cases j with
            | zero => cases z
            | succ j =>
              rw [List.getElem?_cons_succ, List.getElem?_replicate] at z
              split at z <;> cases z
          · rw [hsl] at hp
            rw [List.mem_singleton.mp hp]
            rfl
        · exact (show False from h).elim
end
end Ev
set_option Elab.async false
set_option linter.all false
set_option autoImplicit false
set_option maxRecDepth 100000
set_option maxHeartbeats 8000000
/-! E27: zip of lists, tuples, texts, mixed. -/
namespace Ev
open PySem PySem.Spec PyProof.Rows L2 TL
/-! ### what zip walks -/
inductive ZK where
  | lst (a : Addr) | tup (a : Addr) | str (x : Str) (t : Tok)
def ZK.val : ZK → Value
  | .lst a => .ref a
  | .tup a => .ref a
  | .str x t => .str x t
def ZK.cells : ZK → List Addr
  | .lst a => [a]
  | .tup a => [a]
  | .str _ _ => []
def strTy (x : Str) : String := if x.cps.all (· < 128) then "str_ascii_iterator" else "str_iterator"
def ZK.io : ZK → Obj
  | .lst a => { cls := .type "list_iterator", data := .fields #[.ref a, .int 0 0] }
  | .tup a => { cls := .type "tuple_iterator", data := .fields #[.ref a, .int 0 0] }
  | .str x t => { cls := .type (strTy x), data := .fields #[.str x t, .int 0 0] }
/-- the items, as they stand -/
def ZK.has (K : PySem.W.Frag) (H : Hp) : ZK → List V → Prop
  | .lst a, vs => SqL K H a vs
  | .tup a, vs => SqT K H a vs
  | .str x _, vs => vs = x.cps.toList.map fun c => V.str ⟨#[c]⟩
/-- the iterator at the turn i -/
def ZK.tn (it : Addr) : ZK → Nat → Heap → Prop
  | .lst a, i, h => h.IsListIter it a i
  | .tup a, i, h => h.IsTupleIter it a i
  | .str x t, i, h => h.IsStrIter it (strTy x) x t i
theorem ZK.tn_obj {it : Addr} {k : ZK} {i : Nat} {h : Heap} (st : k.tn it i h) : ∃ o, h.get? it = some o ∧ ∀ v, o.data ≠ .cell v := by
  cases k with
  | lst a =>
    obtain ⟨o, e, c, d⟩ := st
    exact ⟨o, e, fun v z => by rw [d] at z; cases z⟩
  | tup a =>
    obtain ⟨o, e, c, d⟩ := st
    exact ⟨o, e, fun v z => by rw [d] at z; cases z⟩
  | str x t =>
    obtain ⟨o, e, c, d⟩ := st
    exact ⟨o, e, fun v z => by rw [d] at z; cases z⟩
theorem ZK.tn_keep {it : Addr} {k : ZK} {i : Nat} {h h' : Heap} (st : k.tn it i h) (kp : ∀ o, h.get? it = some o → h'.get? it = some o) : k.tn it i h' := by
  cases k with
  | lst a => exact Heap.IsListIter.at st kp
  | tup a => exact Heap.IsTupleIter.at st kp
  | str x t =>
    obtain ⟨o, ho, r⟩ := st
    exact ⟨o, kp o ho, r⟩
theorem draws_tup {prog : Program} {w : World} {A : Around} (hh : A.handled = none) (it l : Addr) (hne : l ≠ it) (items : Array Value) :
    Draws prog w A it [it, l] items.size (fun i v => items[i]? = some v) (fun i h => h.IsTupleIter it l i ∧ h.IsTuple l items) where
  live := fun _ _ st => let ⟨o, ho, _⟩ := st.1; ⟨o, ho⟩
  frame := fun _ _ _ st hk => ⟨st.1.at fun o e => hk it (by simp) o e, by
    obtain ⟨o, ho, r⟩ := st.2
    exact ⟨o, hk l (by simp) o ho, r⟩⟩
  item := fun i s Q E hi st hQ => by
    refine RZ.nextOf_tuple_item st.1 st.2 (x := items[i]) (by simp [hi]) fun h' hit' hs' => ?_
    refine hQ _ h' s.toks (by simp [hi]) ⟨hit', ?_⟩ hs'
    obtain ⟨o, ho, r⟩ := st.2
    exact ⟨o, (hs'.2 l hne).trans ho, r⟩
  done := fun s Q E st hE => RZ.nextOf_tuple_end hh st.1 st.2 (by simp) hE
section
variable {X : Cx} {pins : List (Addr × Obj)} {σ : L2.St} {H : Hp} {s : Shared}
theorem vals_signs2 (x : Str) {j : Nat} {v : Value} (h : ∃ c u, x.cps[j]? = some c ∧ v = .str ⟨#[c]⟩ u) : ∃ y, (x.cps.toList.map fun c => V.str ⟨#[c]⟩)[j]? = some y ∧ RelV y v := by
  obtain ⟨c, u, h1, rfl⟩ := h
  exact ⟨.str ⟨#[c]⟩, by rw [List.getElem?_map]; simp [h1], ⟨u, rfl⟩⟩
/-- the source draws -/
theorem ZK.draws {k : ZK} {it : Addr} {vs : List V} (I : Inv X pins σ H s) (hc : X.calm = true) (h : k.has X.K H vs) (hne : it ∉ k.cells) :
    ∃ (Pv : Nat → Value → Prop) (St : Nat → Heap → Prop), Draws X.prog X.w X.A.in1 it (it :: k.cells) vs.length Pv St ∧ (∀ i, k.tn it i s.heap → St i s.heap) ∧ (∀ i h, St i h → k.tn it i h) ∧ ∀ i v, Pv i v → ∃ x, vs[i]? = some x ∧ RelV x v := by
  have hh : X.A.in1.handled = none := I.ok.hd hc
  cases k with
  | lst a =>
    obtain ⟨its, rv, p, _⟩ := I.list h
    have hl := rv.length
    have D := Draws.list (prog := X.prog) (w := X.w) hh it a (fun z => hne (by rw [z]; exact List.mem_singleton.mpr rfl)) its.toArray
    rw [show its.toArray.size = vs.length from by simp [hl]] at D
    exact ⟨_, _, D, fun i st => ⟨st, p.isList⟩, fun i h st => st.1, fun i v hv => by
      have hv' : its[i]? = some v := by simpa using hv
      have hi : i < vs.length := by
        rw [hl]
        exact (List.getElem?_eq_some_iff.mp hv').1
      obtain ⟨u, hu, ru⟩ := rv.get (List.getElem?_eq_getElem hi)
      rw [hv'] at hu
      cases hu
      exact ⟨_, List.getElem?_eq_getElem hi, ru⟩⟩
  | tup a =>
    obtain ⟨its, rv, p, _⟩ := I.tuple h
    have hl := rv.length
    have D := draws_tup (prog := X.prog) (w := X.w) hh it a (fun z => hne (by rw [z]; exact List.mem_singleton.mpr rfl)) its.toArray
    rw [show its.toArray.size = vs.length from by simp [hl]] at D
    exact ⟨_, _, D, fun i st => ⟨st, p⟩, fun i h st => st.1, fun i v hv => by
      have hv' : its[i]? = some v := by simpa using hv
      have hi : i < vs.length := by
        rw [hl]
        exact (List.getElem?_eq_some_iff.mp hv').1
      obtain ⟨u, hu, ru⟩ := rv.get (List.getElem?_eq_getElem hi)
      rw [hv'] at hu
      cases hu
      exact ⟨_, List.getElem?_eq_getElem hi, ru⟩⟩
  | str x t =>
    have e : vs = x.cps.toList.map fun c => V.str ⟨#[c]⟩ := h
    subst e
    have el : (x.cps.toList.map fun c => V.str ⟨#[c]⟩).length = x.cps.size := by simp
    rw [el]
    by_cases ha : x.cps.all (· < 128) = true
    · have et : strTy x = "str_ascii_iterator" := if_pos ha
      exact ⟨_, _, Draws.strAscii hh it x t, fun i st => by
        have st : s.heap.IsStrIter it (strTy x) x t i := st
        rw [et] at st
        exact st, fun i h st => by
        show h.IsStrIter it (strTy x) x t i
        rw [et]
        exact st, fun i v hv => vals_signs2 x hv⟩
    · have et : strTy x = "str_iterator" := if_neg ha
      exact ⟨_, _, Draws.strWide hh it x t, fun i st => by
        have st : s.heap.IsStrIter it (strTy x) x t i := st
        rw [et] at st
        exact st, fun i h st => by
        show h.IsStrIter it (strTy x) x t i
        rw [et]
        exact st, fun i v hv => vals_signs2 x hv⟩
end
/-! ### the call -/
/-- an iterator of v is the new object o -/
def ItOk (h : Heap) (v : Value) (o : Obj) : Prop := ∀ {prog : Program} {w : World} {A : Around} {E : Value → Shared → Prop} {s : Shared} {Q : Value → Shared → Prop}, (∀ b ob, h.get? b = some ob → s.heap.get? b = some ob) →
  Q (.ref s.heap.objs.size) { s with heap := s.heap.push o } → wpAny (model prog w) A (pyIter v) Q E s
theorem ZK.itOk {X : Cx} {pins : List (Addr × Obj)} {σ : L2.St} {H : Hp} {s : Shared} {k : ZK} {vs : List V} (I : Inv X pins σ H s) (h : k.has X.K H vs) : ItOk s.heap k.val k.io := by
  intro prog w A E s' Q kp hQ
  cases k with
  | lst a =>
    obtain ⟨its, rv, p, _⟩ := I.list h
    exact wpAny_pyIter_list (p.isList.at fun o e => kp a o e) hQ
  | tup a =>
    obtain ⟨its, rv, p, _⟩ := I.tuple h
    obtain ⟨o, ho, r⟩ := p
    exact wpAny_pyIter_tuple (items := its.toArray) (show s'.heap.IsTuple a its.toArray from ⟨o, kp a o ho, r⟩) hQ
  | str x t =>
    by_cases ha : x.cps.all (· < 128) = true
    · refine wpAny_pyIter_ascii ha ?_
      have et : strTy x = "str_ascii_iterator" := if_pos ha
      have e : (ZK.str x t).io = { cls := .type (strTy x), data := .fields #[.str x t, .int 0 0] } := rfl
      rw [e, et] at hQ
      exact hQ
    · refine wpAny_pyIter_wide (by simpa using ha) ?_
      have et : strTy x = "str_iterator" := if_neg ha
      have e : (ZK.str x t).io = { cls := .type (strTy x), data := .fields #[.str x t, .int 0 0] } := rfl
      rw [e, et] at hQ
      exact hQ
abbrev zK1 (h : Heap) (o1 : Obj) : Heap := h.push o1
abbrev zK2 (h : Heap) (o1 o2 : Obj) : Heap := (zK1 h o1).push o2
abbrev zK3 (h : Heap) (o1 o2 : Obj) : Heap := (zK2 h o1 o2).push { cls := .type "tuple", data := .seq #[.ref h.objs.size, .ref (zK1 h o1).objs.size] }
abbrev zK4 (h : Heap) (o1 o2 : Obj) : Heap := (zK3 h o1 o2).push { cls := .type "tuple", data := .seq #[.none, .none] }
abbrev zK5 (h : Heap) (o1 o2 : Obj) : Heap := (zK4 h o1 o2).push { cls := .type "zip", data := .fields #[.none, .bool false, .bool false, .ref (zK2 h o1 o2).objs.size, .ref (zK3 h o1 o2).objs.size] }
theorem meets_zipK (v1 v2 : Value) (o1 o2 : Obj) :
    Meets (Builtin.«zip.__new__» ⟨[.type "zip", v1, v2], []⟩) (fun _ R s => ItOk s.heap v1 o1 ∧ ItOk s.heap v2 o2 ∧ R (.ok (.ret (.ref (zK4 s.heap o1 o2).objs.size))) { s with heap := zK5 s.heap o1 o2 }) :=
  .of_wp fun prog w A R s h => by
    obtain ⟨hp, g, d, tk, os⟩ := s
    obtain ⟨h1, h2, h⟩ := h
    have hsub := sub_zip
    have p1 : ∀ {A : Around} {E : Value → Shared → Prop} {Q : Value → Shared → Prop}, Q (.ref hp.objs.size) ⟨hp.push o1, g, d, tk, os⟩ → wpAny (model prog w) A (pyIter v1) Q E ⟨hp, g, d, tk, os⟩ := fun q => h1 (s := ⟨hp, g, d, tk, os⟩) (fun _ _ e => e) q
    have p2 : ∀ {A : Around} {E : Value → Shared → Prop} {Q : Value → Shared → Prop}, Q (.ref (hp.push o1).objs.size) ⟨(hp.push o1).push o2, g, d, tk, os⟩ → wpAny (model prog w) A (pyIter v2) Q E ⟨hp.push o1, g, d, tk, os⟩ := fun q => h2 (s := ⟨hp.push o1, g, d, tk, os⟩) (fun _ _ e => Heap.get?_push_of_some _ e) q
    wp_walk using p1, p2
    exact ⟨_, rfl, h⟩
theorem call_zipK {prog : Program} {w : World} {A : Around} {E : Value → Shared → Prop} {s : Shared} {v1 v2 : Value} {o1 o2 : Obj} {Q : Value → Shared → Prop} (h1 : ItOk s.heap v1 o1) (h2 : ItOk s.heap v2 o2) (f1 : ∀ h : Heap, (h.push o1).get? h.objs.size = some o1) (f2 : ∀ h : Heap, (h.push o2).get? h.objs.size = some o2)
    (h : ∀ h', IsZip h' (s.heap.objs.size + 4) (s.heap.objs.size + 2) (s.heap.objs.size + 3) .none → IsTupOf2 h' (s.heap.objs.size + 2) (.ref s.heap.objs.size) (.ref (s.heap.objs.size + 1)) →
      IsTupOf2 h' (s.heap.objs.size + 3) .none .none → h'.get? s.heap.objs.size = some o1 → h'.get? (s.heap.objs.size + 1) = some o2 →
      (∀ c o, s.heap.get? c = some o → h'.get? c = some o) → Q (.ref (s.heap.objs.size + 4)) { s with heap := h' }) :
    wpAny (model prog w) A (call (.type "zip") [v1, v2]) Q E s := by
  refine callType_new F.called_zip (by decide) (F.typeCall_zip_2 _ _) (F.newCall_zip_2 _ _) (fun obj => F.args_object_init_3 obj _ _) F.entry_zip_new
    (meets_zipK v1 v2 o1 o2) ⟨h1, h2, ?_⟩
  have z1 : (zK1 s.heap o1).objs.size = s.heap.objs.size + 1 := Heap.size_push ..
  have z2 : (zK2 s.heap o1 o2).objs.size = s.heap.objs.size + 2 := by rw [Heap.size_push, z1]
  have z3 : (zK3 s.heap o1 o2).objs.size = s.heap.objs.size + 3 := by rw [Heap.size_push, z2]
  have z4 : (zK4 s.heap o1 o2).objs.size = s.heap.objs.size + 4 := by rw [Heap.size_push, z3]
  have g5 : (zK5 s.heap o1 o2).get? (zK4 s.heap o1 o2).objs.size = some _ := Heap.get?_push_size _ rfl
  have g4 : (zK5 s.heap o1 o2).get? (zK3 s.heap o1 o2).objs.size = some _ := Heap.get?_push_of_some _ (Heap.get?_push_size _ rfl)
  have g3 : (zK5 s.heap o1 o2).get? (zK2 s.heap o1 o2).objs.size = some _ := Heap.get?_push_of_some _ (Heap.get?_push_of_some _ (Heap.get?_push_size _ rfl))
  have g2 : (zK5 s.heap o1 o2).get? (zK1 s.heap o1).objs.size = some o2 := Heap.get?_push_of_some _ (Heap.get?_push_of_some _ (Heap.get?_push_of_some _ (f2 _)))
  have g1 : (zK5 s.heap o1 o2).get? s.heap.objs.size = some o1 := Heap.get?_push_of_some _ (Heap.get?_push_of_some _ (Heap.get?_push_of_some _ (Heap.get?_push_of_some _ (f1 _))))
  show _ ∧ _
  rw [z2, z3, z4] at g5
  rw [z1, z2] at g3
  rw [z3] at g4
  rw [z1] at g2
  rw [z4]
  exact ⟨⟨_, g5, rfl⟩, h _ g5 g3 g4 g1 g2 fun c o x =>
    Heap.get?_push_of_some _ (Heap.get?_push_of_some _ (Heap.get?_push_of_some _ (Heap.get?_push_of_some _ (Heap.get?_push_of_some _ x))))⟩
end Ev
set_option Elab.async false
set_option linter.all false
set_option autoImplicit false
set_option maxRecDepth 100000
set_option maxHeartbeats 8000000
/-! E28: zip, the turns; the claim without premises. -/
namespace Ev
open PySem PySem.Spec PyProof.Rows L2 TL
/-- the pairs at each turn -/
def ItK (K : PySem.W.Frag) (k1 k2 : ZK) : It :=
  ⟨fun i H => ∃ (xs ys : List V), k1.has K H xs ∧ k2.has K H ys ∧ i < xs.length ∧ i < ys.length,
    fun i H v H' => ∃ T x y, v = .ref T ∧ H T = none ∧ H' = upd H T (.tup [x, y]) ∧ (∀ xs, k1.has K H xs → xs[i]? = some x) ∧ ∀ ys, k2.has K H ys → ys[i]? = some y,
    fun i H => ∃ xs ys : List V, k1.has K H xs ∧ k2.has K H ys ∧ i ≤ xs.length ∧ i ≤ ys.length ∧ (i = xs.length ∨ i = ys.length)⟩
structure KApart (z TI TO i1 i2 : Addr) (c1 c2 : List Addr) : Prop where
  TIz : TI ≠ z
  TOz : TO ≠ z
  i1z : i1 ≠ z
  i2z : i2 ≠ z
  TITO : TI ≠ TO
  TIi1 : TI ≠ i1
  TIi2 : TI ≠ i2
  TOi1 : TO ≠ i1
  TOi2 : TO ≠ i2
  i12 : i1 ≠ i2
  c1 : ∀ b, b = z ∨ b = TO ∨ b = i1 ∨ b = i2 → b ∉ c1
  c2 : ∀ b, b = z ∨ b = TO ∨ b = i1 ∨ b = i2 → b ∉ c2
theorem KApart.sep {z TI TO i1 i2 : Addr} {c1 c2 : List Addr} (D : KApart z TI TO i1 i2 c1 c2) : ZipSep2 z TI TO i1 i2 (i1 :: c1) (i2 :: c2) where
  TIz := D.TIz
  TOz := D.TOz
  TITO := D.TITO
  TIi1 := D.TIi1
  mem1 := List.mem_cons_self ..
  zf1 := fun h => by
    rcases List.mem_cons.mp h with h | h
    · exact D.i1z h.symm
    · exact D.c1 z (.inl rfl) h
  Tf1 := fun h => by
    rcases List.mem_cons.mp h with h | h
    · exact D.TOi1 h
    · exact D.c1 TO (.inr (.inl rfl)) h
  TIi2 := D.TIi2
  mem2 := List.mem_cons_self ..
  zf2 := fun h => by
    rcases List.mem_cons.mp h with h | h
    · exact D.i2z h.symm
    · exact D.c2 z (.inl rfl) h
  Tf2 := fun h => by
    rcases List.mem_cons.mp h with h | h
    · exact D.TOi2 h
    · exact D.c2 TO (.inr (.inl rfl)) h
  sep1_2 := fun h => by
    rcases List.mem_cons.mp h with h | h
    · exact D.i12 h
    · exact D.c2 i1 (.inr (.inr (.inl rfl))) h
  sep2_1 := fun h => by
    rcases List.mem_cons.mp h with h | h
    · exact D.i12 h.symm
    · exact D.c1 i2 (.inr (.inr (.inr rfl))) h
theorem ZK.inj {X : Cx} {pins : List (Addr × Obj)} {σ : L2.St} {H : Hp} {s : Shared} {k : ZK} {xs ys : List V} (I : Inv X pins σ H s) (h1 : k.has X.K H xs) (h2 : k.has X.K H ys) : xs = ys := by
  cases k with
  | lst a => exact I.list_inj h1 h2
  | tup a => exact I.tuple_inj h1 h2
  | str x t =>
    have e1 : xs = _ := h1
    have e2 : ys = _ := h2
    rw [e1, e2]
theorem turn_zipK {P : Program} {w : World} {K : PySem.W.Frag} {elts : List PySem.Expr} {kk : Nat} {tpos : Pos} {k1 k2 : ZK} {z TI TO i1 i2 : Addr} (D : KApart z TI TO i1 i2 k1.cells k2.cells) :
    Turn P w K (.Tuple elts kk tpos) (ItK K k1 k2) [z, TI, TO, i1, i2] z (fun i h => IsZip h z TI TO .none ∧ IsTupOf2 h TI (.ref i1) (.ref i2) ∧ (∃ x y, IsTupOf2 h TO x y) ∧ k1.tn i1 i h ∧ k2.tn i2 i h) where
  mem := by simp
  obj := fun i h st c hc => by
    obtain ⟨hz, hTI, ⟨x, y, hTO⟩, h1, h2⟩ := st
    have e' : c = z ∨ c = TI ∨ c = TO ∨ c = i1 ∨ c = i2 := by simpa using hc
    rcases e' with q | q | q | q | q
    · rw [q]; exact ⟨_, hz, fun v q => nomatch q⟩
    · rw [q]; exact ⟨_, hTI, fun v q => nomatch q⟩
    · rw [q]; exact ⟨_, hTO, fun v q => nomatch q⟩
    · rw [q]; exact ZK.tn_obj h1
    · rw [q]; exact ZK.tn_obj h2
  keep := fun i h h' st k => by
    obtain ⟨hz, hTI, ⟨x, y, hTO⟩, h1, h2⟩ := st
    exact ⟨k z (by simp) _ hz, k TI (by simp) _ hTI, ⟨x, y, k TO (by simp) _ hTO⟩, ZK.tn_keep h1 fun o q => k i1 (by simp) o q, ZK.tn_keep h2 fun o q => k i2 (by simp) o q⟩
  item := by
    intro X hP hw hK hc i pins s σ H E I hf st hg
    subst hP hw hK
    obtain ⟨hz, hTI, ⟨x0, y0, hTO⟩, h1, h2⟩ := st
    obtain ⟨xs, ys, hqx, hqy, hx, hy⟩ := hg
    obtain ⟨P1, St1, D1, u1, b1, v1⟩ := ZK.draws I hc hqx (D.c1 i1 (.inr (.inr (.inl rfl))))
    obtain ⟨P2, St2, D2, u2, b2, v2⟩ := ZK.draws I hc hqy (D.c2 i2 (.inr (.inr (.inr rfl))))
    have hzl : z < s.heap.objs.size := Heap.lt_size hz
    have S := D.sep
    refine wpAny_pyNext_zipD2_item S D1 D2 hz hTI hTO (u1 i h1) (u2 i h2) hx hy fun w1 w2 h' tk p1 p2 hz' hTO' s1 s2 hT hsz hk => ?_
    obtain ⟨x, ex, rx⟩ := v1 i w1 p1
    obtain ⟨y, ey, ry⟩ := v2 i w2 p2
    refine ⟨_, rfl, wpAny_letOwnedTupleGo_zip (s := { s with heap := h', toks := tk }) hz' fun h'' z'' sb => ?_⟩
    have hT2 : h''.get? s.heap.objs.size = some { cls := .type "tuple", data := .seq #[w1, w2] } := (sb.2 _ (Nat.ne_of_gt hzl)).trans hT
    have new : ObjOk X.prog X.w (upd H s.heap.objs.size (.tup [x, y])) h'' s.heap.objs.size (.tup [x, y]) :=
      ⟨by show 2 ≤ sizeLine; decide, [w1, w2], .cons rx (.cons ry .nil), ⟨_, hT2, rfl, _, rfl⟩⟩
    have I1 : Inv X pins σ (upd H s.heap.objs.size (.tup [x, y])) { s with heap := h'', toks := tk } :=
      I.turnedNew (t' := tk) (ch := [z, TI, TO, i1, i2]) (fun c o hb q => (sb.2 c (fun q' => hb (by simp [q']))).trans (hk c o (fun q' => hb (by simp [q'])) (fun q' => hb (by simp [q'])) (fun q' => hb (by simp [q'])) (fun q' => hb (by simp [q'])) q)) hf (Nat.le_refl _) new
    refine ⟨.ref s.heap.objs.size, _, I1, rfl, ⟨_, x, y, rfl, I.hok.fresh (Nat.le_refl _), rfl, fun l hl => by rw [ZK.inj I hl hqx]; exact ex, fun l hl => by rw [ZK.inj I hl hqy]; exact ey⟩, ⟨z'', ?_, ⟨w1, w2, ?_⟩, ?_, ?_⟩, fun c hcm => ?_⟩
    · exact (sb.2 _ D.TIz).trans (hk _ _ D.TIz D.TITO D.TIi1 D.TIi2 hTI)
    · exact (sb.2 _ D.TOz).trans hTO'
    · exact ZK.tn_keep (b1 _ _ s1) fun o q => (sb.2 _ D.i1z).trans q
    · exact ZK.tn_keep (b2 _ _ s2) fun o q => (sb.2 _ D.i2z).trans q
    · have hlt : c < s.heap.objs.size := by
        have e' : c = z ∨ c = TI ∨ c = TO ∨ c = i1 ∨ c = i2 := by simpa using hcm
        rcases e' with q | q | q | q | q
        · rw [q]; exact hzl
        · rw [q]; exact Heap.lt_size hTI
        · rw [q]; exact Heap.lt_size hTO
        · rw [q]; obtain ⟨_, e1, _⟩ := ZK.tn_obj h1; exact Heap.lt_size e1
        · rw [q]; obtain ⟨_, e2, _⟩ := ZK.tn_obj h2; exact Heap.lt_size e2
      rw [upd_ne (Nat.ne_of_lt hlt)]
      exact (hf c hcm).1
  done := by
    intro X hP hw hK hc i pins s σ H E I hf st hg
    subst hP hw hK
    obtain ⟨hz, hTI, ⟨x0, y0, hTO⟩, h1, h2⟩ := st
    obtain ⟨xs, ys, hqx, hqy, l1, l2, hend⟩ := hg
    obtain ⟨P1, St1, D1, u1, b1, v1⟩ := ZK.draws I hc hqx (D.c1 i1 (.inr (.inr (.inl rfl))))
    obtain ⟨P2, St2, D2, u2, b2, v2⟩ := ZK.draws I hc hqy (D.c2 i2 (.inr (.inr (.inr rfl))))
    exact wpAny_pyNext_zipD2_end D.sep D1 D2 hz hTI hTO (u1 i h1) (u2 i h2) l1 l2 hend fun h' tk hk => ⟨rfl, I.turnedL (t' := tk) (ch := [z, TI, TO, i1, i2]) (fun c o hb q =>
      hk c o (fun q' => hb (by simp [q'])) (fun q' => hb (by simp [q'])) (fun q' => hb (by simp [q'])) (fun q' => hb (by simp [q'])) q) hf⟩
  self := fun A i s Q E st h => wpAny_pyIter_zip st.1 h
section
variable {X : Cx} {Γ : Gd} {W : WX} {kp : Keep} {P : Pg} {a b : PySem.Expr} {x y : Ex} {ρ ρ' : Loc} {S S' : Sto} {H H' : Hp} {d : D} {v : V}
/-- what the evaluator knows of it -/
def ZK.hasR (Γ : Gd) (ρ : Loc) (H : Hp) : ZK → List V → Prop
  | .lst a, vs => LstAt ρ H a vs ∨ ∃ o, H a = some (.frz o (.lst vs))
  | .tup a, vs => SqT Γ.K H a vs
  | .str x _, vs => vs = x.cps.toList.map fun c => V.str ⟨#[c]⟩
theorem ZK.has_of {k : ZK} {vs : List V} (h : k.hasR Γ ρ H vs) : k.has Γ.K H vs := by
  cases k with
  | lst a => exact sqL_of h
  | tup a => exact h
  | str x t => exact h
theorem ZK.hasR_ext {k : ZK} {vs : List V} (h : k.hasR Γ ρ H vs) (m : Rm Γ ρ S H) (e : Ext0 ρ H ρ' H') : k.hasR Γ ρ' H' vs := by
  cases k with
  | lst a =>
    rcases h with h | ⟨o, h⟩
    · exact .inl (lstAt_ext0 e h)
    · exact .inr ⟨o, e.frm a _ h (m.tupNo h (fun _ z => nomatch z)) trivial⟩
  | tup a => exact sqT_ext0 m e h
  | str x t => exact h
theorem zipD_drop : ∀ {xs ys : List D} {q : D} {r : List D}, zipD xs ys = q :: r → ∃ x xs' y ys', xs = x :: xs' ∧ ys = y :: ys' ∧ q = .tup [x, y] ∧ r = zipD xs' ys'
  | [], _, _, _, h => by
    unfold zipD at h
    cases h
  | x :: xs, [], _, _, h => by
    unfold zipD at h
    cases h
  | x :: xs, y :: ys, q, r, h => by
    unfold zipD at h
    cases h
    exact ⟨x, xs, y, ys, rfl, rfl, rfl, rfl⟩
theorem zipD_nil : ∀ {xs ys : List D}, zipD xs ys = [] → xs = [] ∨ ys = []
  | [], _, _ => .inl rfl
  | x :: xs, [], _ => .inr rfl
  | x :: xs, y :: ys, h => by
    unfold zipD at h
    cases h
def Zz (Γ : Gd) (k1 k2 : ZK) : Nat → Src → Loc → Sto → Hp → Prop := fun i src ρ S H => ∃ xs ys vs us, src = .fix (zipD xs ys) ∧ k1.hasR Γ ρ H vs ∧ k2.hasR Γ ρ H us ∧ RelL Γ ρ H xs (vs.drop i) ∧ RelL Γ ρ H ys (us.drop i) ∧ i ≤ vs.length ∧ i ≤ us.length
theorem wk_zip (k1 k2 : ZK) : WkR Γ (ItK Γ.K k1 k2) (Zz Γ k1 k2) where
  step := by
    rintro i src ρ S H d src' ⟨xs, ys, vs, us, rfl, h1, h2, h3, h4, l1, l2⟩ m e
    obtain ⟨r, e1, rfl⟩ := next_fix e
    obtain ⟨x, xs', y, ys', rfl, rfl, rfl, rfl⟩ := zipD_drop e1
    obtain ⟨v, ev, rv, h3'⟩ := drop_cons h3
    obtain ⟨u, eu, ru, h4'⟩ := drop_cons h4
    have hi1 := (List.getElem?_eq_some_iff.mp ev).1
    have hi2 := (List.getElem?_eq_some_iff.mp eu).1
    refine ⟨⟨vs, us, ZK.has_of h1, ZK.has_of h2, hi1, hi2⟩, fun z H' ⟨T, x0, y0, e2, hT, e3, f1, f2⟩ => ?_⟩
    subst e2
    subst e3
    have g1 := f1 vs (ZK.has_of h1)
    have g2 := f2 us (ZK.has_of h2)
    rw [ev] at g1
    rw [eu] at g2
    cases g1
    cases g2
    have xg : Ext ρ H ρ (upd H T (.tup [v, u])) := Ext.grow hT
    refine ⟨xg, m.grow hT, ?_, xs', ys', vs, us, rfl, ZK.hasR_ext h1 m xg.toExt0, ZK.hasR_ext h2 m xg.toExt0, RelL.ext m xg _ _ h3', RelL.ext m xg _ _ h4', hi1, hi2⟩
    unfold Rel
    exact ⟨T, [v, u], rfl, SqT.of upd_same, relL_cons.mpr ⟨v, [u], rfl, Rel.ext m xg _ _ rv, RelL.one (Rel.ext m xg _ _ ru)⟩⟩
  stop := by
    rintro i src ρ S H ⟨xs, ys, vs, us, rfl, h1, h2, h3, h4, l1, l2⟩ m e
    have e1 := next_fix_end e
    refine ⟨vs, us, ZK.has_of h1, ZK.has_of h2, l1, l2, ?_⟩
    rcases zipD_nil e1 with rfl | rfl
    · have := drop_nil h3
      exact .inl (by omega)
    · have := drop_nil h4
      exact .inr (by omega)
  ext := by
    rintro i src ρ S H ρ' S' H' ⟨xs, ys, vs, us, rfl, h1, h2, h3, h4, l1, l2⟩ m x m'
    exact ⟨xs, ys, vs, us, rfl, ZK.hasR_ext h1 m x, ZK.hasR_ext h2 m x, RelL.ext0 m x _ _ h3, RelL.ext0 m x _ _ h4, l1, l2⟩
/-- a value that is walked, as a source -/
theorem zk_of {d : D} {xs : List D} {v : V} {u : Value} (e : Src.of d = some (.fix xs)) (r : Rel Γ ρ H d v) (ru : RelV v u) : ∃ (k : ZK) (vs : List V), u = k.val ∧ k.hasR Γ ρ H vs ∧ RelL Γ ρ H xs vs ∧ (∀ b, H b = none → (∀ o, Γ.K.lookup b ≠ some o) → b ∉ k.cells) := by
  cases d with
  | tup ds =>
    cases e
    obtain ⟨a, vs, rfl, h1, h2⟩ := rT_tup.mp (rel_rT r)
    obtain rfl : u = Value.ref a := ru
    refine ⟨.tup a, vs, rfl, h1, h2, fun b hb hk z => ?_⟩
    rw [List.mem_singleton.mp z] at hb hk
    rcases h1 with (h1 | ⟨o, h1⟩) | ⟨o, _, _, h1, _⟩
    · rw [hb] at h1
      cases h1
    · rw [hb] at h1
      cases h1
    · exact hk o h1
  | lst ds =>
    cases e
    unfold Rel at r
    obtain ⟨a, vs, rfl, h1, h2⟩ := r
    obtain rfl : u = Value.ref a := ru
    refine ⟨.lst a, vs, rfl, .inl h1, h2, fun b hb hk z => ?_⟩
    rw [List.mem_singleton.mp z] at hb
    rw [h1.1] at hb
    cases hb
  | frl ds =>
    cases e
    obtain ⟨a, vs, o, rfl, h1, h2⟩ := rT_frl.mp (rel_rT r)
    obtain rfl : u = Value.ref a := ru
    refine ⟨.lst a, vs, rfl, .inr ⟨o, h1⟩, h2, fun b hb hk z => ?_⟩
    rw [List.mem_singleton.mp z] at hb
    rw [h1] at hb
    cases hb
  | str z =>
    cases e
    obtain ⟨rfl, _⟩ := rT_str.mp (rel_rT r)
    obtain ⟨t, rfl⟩ := ru
    refine ⟨.str ⟨z.toArray⟩ t, _, rfl, rfl, ?_, fun b _ _ h => by cases h⟩
    have e1 : (z.map fun c => D.str [c]) = (z.map fun c => [c]).map D.str := by rw [List.map_map]; rfl
    have e2 : ((⟨z.toArray⟩ : Str).cps.toList.map fun c => V.str ⟨#[c]⟩) = ((z.map fun c => [c]).map fun y => (⟨y.toArray⟩ : Str)).map V.str := by rw [List.map_map, List.map_map]; rfl
    rw [e1, e2]
    refine strs_to _ fun y hy => ?_
    obtain ⟨c, _, rfl⟩ := List.mem_map.mp hy
    rw [sizeLine_eq]
    show 1 ≤ 16777216
    omega
  | _ => cases e
theorem io_f (k : ZK) (h : Heap) : (h.push k.io).get? h.objs.size = some k.io := by
  cases k <;> exact Heap.get?_push_size _ rfl
theorem io_tn (k : ZK) {it : Addr} {h : Heap} (e : h.get? it = some k.io) : k.tn it 0 h := by
  cases k with
  | lst a => exact ⟨_, e, rfl, rfl⟩
  | tup a => exact ⟨_, e, rfl, rfl⟩
  | str x t => exact ⟨_, e, rfl, rfl⟩
theorem zipOk : ZipOk := by
  intro X Γ W kp P a b x y p pos tpos elts kk C hg hm ha hb sa sb n
  cases n with
  | zero => exact i_zero _
  | succ n =>
    refine ⟨fun pins s σ H QI I ⟨ρ, S, env, e, m, h⟩ => ?_⟩
    have s2 : starEach [b] X.env = (false, eval b X.env) :: starEach [] X.env := star_cons sb
    have s1 : starEach [a, b] X.env = (false, eval a X.env) :: starEach [b] X.env := star_cons sa
    have hA : PA X [a, b] (tCons (tE Γ W kp P n x) (tCons (tE Γ W kp P n y) tNil)) := pa_cons (ha n) (pa_cons (hb n) pa_nil s2) s1
    have hpl : (backTo pos (starEach [b] X.env)).any (·.1) = false := by rw [s2]; rfl
    unfold evI at h
    have rd : tCons (tE Γ W kp P n x) (tCons (tE Γ W kp P n y) tNil) σ H fun vs H2 => ∃ v1 v2 ρ2 S2 d1 d2 xs ys, vs = [v1, v2] ∧ Rm Γ ρ2 S2 H2 ∧ Rel Γ ρ2 H2 d1 v1 ∧ Rel Γ ρ2 H2 d2 v2 ∧ Src.of d1 = some (.fix xs) ∧ Src.of d2 = some (.fix ys) ∧ ∀ J Z, WkR Γ J Z → Z 0 (.fix (zipD xs ys)) ρ2 S2 H2 → QI J H2 := by
      refine tE.mk e m h fun d1 S1 ρ1 H1 v1 x1 m1 e1 r1 h1 => tE.mk e1 m1 h1 fun d2 S2 ρ2 H2 v2 x2 m2 e2 r2 h2 => ?_
      split at h2
      · rename_i xs ys ex ey
        exact ⟨v1, v2, ρ2, S2, d1, d2, xs, ys, rfl, m2, Rel.ext m1 x2 _ _ r1, r2, ex, ey, h2.here m2⟩
      · exact (show False from h2).elim
    refine Call_ (ld_blt I hg hm PyProof.Rows.boot_zip (PyProof.Rows.callWith_type1 (thn (hA.run pos pins s σ H _ I rd) fun us st1 ⟨vs, H1, I1, r1, q1⟩ => ?_) s1 hpl))
    obtain ⟨v1, v2, ρ2, S2, d1, d2, xs, ys, rfl, m2, r1', r2', e1, e2, q⟩ := q1
    obtain ⟨u1, u2, rfl, ru1, ru2⟩ := vals2 r1
    obtain ⟨k1, vs1, rfl, c1, l1, n1⟩ := zk_of e1 r1' ru1
    obtain ⟨k2, vs2, rfl, c2, l2, n2⟩ := zk_of e2 r2' ru2
    have hK := C.K
    have t1 : k1.has X.K H1 vs1 := by rw [← hK]; exact ZK.has_of c1
    have t2 : k2.has X.K H1 vs2 := by rw [← hK]; exact ZK.has_of c2
    have fr : ∀ c, st1.heap.objs.size ≤ c → H1 c = none ∧ ∀ o, Γ.K.lookup c ≠ some o := fun c hc => ⟨I1.hok.fresh hc, fun o z => by
      rw [hK] at z
      exact absurd (Heap.lt_size (I1.kIn c o z)) (Nat.not_lt.mpr hc)⟩
    have out : ∀ c, st1.heap.objs.size ≤ c → c ∉ k1.cells ∧ c ∉ k2.cells := fun c hc => ⟨n1 c (fr c hc).1 (fr c hc).2, n2 c (fr c hc).1 (fr c hc).2⟩
    have fresh5 : ∀ c, c ∈ [st1.heap.objs.size + 4, st1.heap.objs.size + 2, st1.heap.objs.size + 3, st1.heap.objs.size, st1.heap.objs.size + 1] → FpOk X pins H1 c := fun c hcm => by
      have e' : c = st1.heap.objs.size + 4 ∨ c = st1.heap.objs.size + 2 ∨ c = st1.heap.objs.size + 3 ∨ c = st1.heap.objs.size ∨ c = st1.heap.objs.size + 1 := by simpa using hcm
      have hle : st1.heap.objs.size ≤ c := by
        rcases e' with z | z | z | z | z <;> rw [z] <;> first | exact Nat.le_add_right _ _ | exact Nat.le_refl _
      exact I1.fpOk hle (I1.hok.fresh hle)
    have D : KApart (st1.heap.objs.size + 4) (st1.heap.objs.size + 2) (st1.heap.objs.size + 3) st1.heap.objs.size (st1.heap.objs.size + 1) k1.cells k2.cells := by
      have big : ∀ b, b = st1.heap.objs.size + 4 ∨ b = st1.heap.objs.size + 3 ∨ b = st1.heap.objs.size ∨ b = st1.heap.objs.size + 1 → st1.heap.objs.size ≤ b := fun b hb => by
        rcases hb with z | z | z | z <;> rw [z] <;> first | exact Nat.le_add_right _ _ | exact Nat.le_refl _
      have ne : ∀ {i j : Nat}, i ≠ j → (st1.heap.objs.size + i : Nat) ≠ st1.heap.objs.size + j := fun h => by omega
      refine ⟨ne (i := 2) (j := 4) (by decide), ne (i := 3) (j := 4) (by decide), ne (i := 0) (j := 4) (by decide), ne (i := 1) (j := 4) (by decide), ne (i := 2) (j := 3) (by decide), ne (i := 2) (j := 0) (by decide), ne (i := 2) (j := 1) (by decide), ne (i := 3) (j := 0) (by decide), ne (i := 3) (j := 1) (by decide), ne (i := 0) (j := 1) (by decide), fun b hb => (out b (big b hb)).1, fun b hb => (out b (big b hb)).2⟩
    refine call_zipK (ZK.itOk I1 t1) (ZK.itOk I1 t2) (io_f k1) (io_f k2) fun h' hz hTI hTO h1 h2 hk => wpAny_pyIter_zip hz ?_
    have I2 : Inv X pins σ H1 { st1 with heap := h' } := I1.kept (t' := st1.toks) hk
    refine ⟨st1.heap.objs.size + 4, [st1.heap.objs.size + 4, st1.heap.objs.size + 2, st1.heap.objs.size + 3, st1.heap.objs.size, st1.heap.objs.size + 1], _, ItK X.K k1 k2, H1, rfl, I2, turn_zipK D, ⟨hz, hTI, ⟨_, _, hTO⟩, io_tn k1 h1, io_tn k2 h2⟩, fresh5, ?_⟩
    have wk := wk_zip (Γ := Γ) k1 k2
    rw [hK] at wk
    exact q _ _ wk ⟨xs, ys, vs1, vs2, rfl, c1, c2, l1, l2, Nat.zero_le _, Nat.zero_le _⟩
end
end Ev
set_option Elab.async false
set_option linter.all false
set_option autoImplicit false
set_option maxRecDepth 100000
set_option maxHeartbeats 8000000
/-! E29: the head: what is read off the heap behind the top. -/
namespace Ev
open PySem PySem.Spec PyProof.Rows L2 TL
theorem andT {a b : Bool} (h : (a && b) = true) : a = true ∧ b = true := Bool.and_eq_true_iff.mp h
/-! ### a written value -/
/-- the keys stand so -/
def keysK : List D → List DictEntry → Bool
  | [], [] => true
  | .str x :: ks, e :: es => (match e.key with
    | .str y _ => decide (y = ⟨x.toArray⟩)
    | _ => false) && keysK ks es
  | _, _ => false
mutual
def relK (K : PySem.W.Frag) (tb : List (Addr × List Str)) : D → Value → Bool
  | .non, u => (match u with
    | .none => true
    | _ => false)
  | .bl b, u => (match u with
    | .bool c => b == c
    | _ => false)
  | .int i, u => (match u with
    | .int j _ => decide (i = j)
    | _ => false)
  | .str x, u => (match u with
    | .str y _ => decide (y = ⟨x.toArray⟩) && decide (x.length ≤ sizeLine)
    | _ => false)
  | .tup ds, u => (match u with
    | .ref a => (match K.lookup a with
      | some ⟨.type c, _, .seq its _, _⟩ => decide (c = "tuple") && (decide (its.size ≤ sizeLine) && relKL K tb ds its.toList)
      | _ => false)
    | _ => false)
  | .wdi ks ds, u => (match u with
    | .ref a => (match K.lookup a with
      | some ⟨_, _, .dict es _, _⟩ => (tb.any fun t => decide (t.1 = a)) && (keysK ks es.toList && relKL K tb ds (es.toList.map fun e => e.val))
      | _ => false)
    | _ => false)
  | _, _ => false
def relKL (K : PySem.W.Frag) (tb : List (Addr × List Str)) : List D → List Value → Bool
  | [], us => us.isEmpty
  | d :: ds, us => (match us with
    | [] => false
    | u :: us => relK K tb d u && relKL K tb ds us)
end
def keyOfD : D → Key
  | .str x => .inr ⟨x.toArray⟩
  | .int i => .inl i
  | _ => .inl 0
theorem wd_look {x : Str} : ∀ {ks : List D} {es : List DictEntry} {vs : List V}, keysK ks es = true → Vals vs (es.map fun e => e.val) → ks.map keyD = ((ks.map keyOfD).zip vs).map (fun p => some p.1) ∧ ((ks.map keyOfD).zip vs).map (·.2) = vs ∧
    RelO (valV ((ks.map keyOfD).zip vs) (.inr x)) ((es.find? (·.key.isStr x)).map fun e => e.val) ∧ es.any (·.refKey) = false
  | [], [], vs, _, h => by
    cases h
    exact ⟨rfl, rfl, trivial, rfl⟩
  | .str y :: ks, e :: es, vs, hk, h => by
    obtain ⟨h1, h2⟩ := andT hk
    cases h with
    | cons rv rt =>
      rename_i v vs
      obtain ⟨i1, i2, i3, i4⟩ := wd_look (x := x) h2 rt
      obtain ⟨eh, ek, ev⟩ := e
      split at h1
      · rename_i y' t q
        have ey : y' = ⟨y.toArray⟩ := of_decide_eq_true h1
        subst ey
        have hr : ek = .str ⟨y.toArray⟩ t := q
        subst hr
        refine ⟨by simp only [List.map_cons, List.zip_cons_cons]; exact congrArg _ i1, by simp only [List.map_cons, List.zip_cons_cons]; exact congrArg _ i2, ?_, ?_⟩
        · by_cases hx : (⟨y.toArray⟩ : Str) = x
          · have e1 : (Value.str ⟨y.toArray⟩ t).isStr x = true := by
              show decide _ = true
              exact decide_eq_true hx
            rw [List.find?_cons_of_pos (by exact e1)]
            simp only [List.map_cons, List.zip_cons_cons]
            rw [valV_pos (show (keyOfD (D.str y), v).1 = _ from congrArg Sum.inr hx)]
            exact rv
          · have e1 : ¬ (Value.str ⟨y.toArray⟩ t).isStr x = true := by
              show ¬ decide _ = true
              exact fun z => hx (of_decide_eq_true z)
            rw [List.find?_cons_of_neg (by exact e1)]
            simp only [List.map_cons, List.zip_cons_cons]
            rw [valV_neg (show ¬ (keyOfD (D.str y), v).1 = _ from fun z => hx (Sum.inr.inj z))]
            exact i3
        · rw [List.any_cons, i4]
          rfl
      · cases h1
  | [], _ :: _, _, h, _ => by cases h
  | .str _ :: _, [], _, h, _ => by cases h
  | .non :: _, _, _, h, _ => by cases h
  | .bl _ :: _, _, _, h, _ => by cases h
  | .int _ :: _, _, _, h, _ => by cases h
  | .tup _ :: _, _, _, h, _ => by cases h
  | .lst _ :: _, _, _, h, _ => by cases h
  | .frl _ :: _, _, _, h, _ => by cases h
  | .dic _ _ :: _, _, _, h, _ => by cases h
  | .wdi _ _ :: _, _, _, h, _ => by cases h
  | .ref _ :: _, _, _, h, _ => by cases h
  | .fn _ :: _, _, _, h, _ => by cases h
section
variable {Γ : Gd} {tb : List (Addr × List Str)}
mutual
theorem relK_ok (hT : ∀ t ∈ tb, ∃ es n, KDict Γ.K Γ.w t.1 es n) : ∀ {d : D} {u : Value}, relK Γ.K tb d u = true → ∃ v, RelV v u ∧ ∀ ρ H, Rel Γ ρ H d v
  | .non, u, h => by
    unfold relK at h
    cases u with
    | none => exact ⟨.non, rfl, fun _ _ => rfl⟩
    | _ => cases h
  | .bl b, u, h => by
    unfold relK at h
    cases u with
    | bool c =>
      have e : b = c := eq_of_beq h
      subst e
      exact ⟨.bl b, rfl, fun _ _ => rfl⟩
    | _ => cases h
  | .int i, u, h => by
    unfold relK at h
    cases u with
    | int j t =>
      have e : i = j := of_decide_eq_true h
      subst e
      exact ⟨.int i, ⟨t, rfl⟩, fun _ _ => rfl⟩
    | _ => cases h
  | .str x, u, h => by
    unfold relK at h
    cases u with
    | str y t =>
      obtain ⟨h1, h2⟩ := andT h
      have e : y = ⟨x.toArray⟩ := of_decide_eq_true h1
      subst e
      exact ⟨.str ⟨x.toArray⟩, ⟨t, rfl⟩, fun _ _ => ⟨rfl, of_decide_eq_true h2⟩⟩
    | _ => cases h
  | .tup ds, u, h => by
    unfold relK at h
    cases u with
    | ref a =>
      simp only at h
      split at h
      · rename_i c od its n sl q
        obtain ⟨h1, h2⟩ := andT h
        obtain ⟨h3, h4⟩ := andT h2
        obtain ⟨vs, rv, rl⟩ := relKL_ok hT h4
        have e : c = "tuple" := of_decide_eq_true h1
        subst e
        exact ⟨.ref a, rfl, fun ρ H => ⟨a, vs, rfl, .inr ⟨_, its, n, q, rfl, rfl, of_decide_eq_true h3, rv⟩, rl ρ H⟩⟩
      · cases h
    | _ => cases h
  | .wdi ks ds, u, h => by
    unfold relK at h
    cases u with
    | ref a =>
      simp only at h
      split at h
      · rename_i oc od es n sl q
        obtain ⟨h1, h2⟩ := andT h
        obtain ⟨h3, h4⟩ := andT h2
        obtain ⟨vs, rv, rl⟩ := relKL_ok hT h4
        obtain ⟨t, ht, ea⟩ := List.any_eq_true.mp h1
        have ea : t.1 = a := of_decide_eq_true ea
        obtain ⟨es', n', KD⟩ := hT t ht
        rw [ea] at KD
        obtain ⟨w1, w2, _, w4⟩ := wd_look (x := "") h3 rv
        refine ⟨.ref a, rfl, fun ρ H => ⟨a, (ks.map keyOfD).zip vs, rfl, ⟨⟨es', n', KD⟩, fun x => ?_⟩, w1, by rw [w2]; exact rl ρ H⟩⟩
        obtain ⟨_, _, w3, w4⟩ := wd_look (x := x) h3 rv
        refine ⟨_, ?_, w3⟩
        unfold PySem.W.nsIn
        rw [q]
        simp only
        cases e : es.toList.find? (·.key.isStr x) with
        | some e' => rfl
        | none =>
          simp only [w4]
          rfl
      · cases h
    | _ => cases h
  | .lst _, _, h => by unfold relK at h; cases h
  | .frl _, _, h => by unfold relK at h; cases h
  | .dic _ _, _, h => by unfold relK at h; cases h
  | .ref _, _, h => by unfold relK at h; cases h
  | .fn _, _, h => by unfold relK at h; cases h
theorem relKL_ok (hT : ∀ t ∈ tb, ∃ es n, KDict Γ.K Γ.w t.1 es n) : ∀ {ds : List D} {us : List Value}, relKL Γ.K tb ds us = true → ∃ vs, Vals vs us ∧ ∀ ρ H, RelL Γ ρ H ds vs
  | [], us, h => by
    unfold relKL at h
    cases us with
    | nil => exact ⟨[], .nil, fun _ _ => rfl⟩
    | cons _ _ => cases h
  | d :: ds, us, h => by
    unfold relKL at h
    cases us with
    | nil => cases h
    | cons u us =>
      obtain ⟨h1, h2⟩ := andT h
      obtain ⟨v, r1, r2⟩ := relK_ok hT h1
      obtain ⟨vs, r3, r4⟩ := relKL_ok hT h2
      exact ⟨v :: vs, .cons r1 r3, fun ρ H => ⟨v, vs, rfl, r2 ρ H, r4 ρ H⟩⟩
end
end
/-! ### an own class of error -/
def oexB (K : PySem.W.Frag) (C : Addr) : Bool := (match K.lookup C with
  | some ⟨.type t, _, .cls cd, sl⟩ => decide (t = "type") && (match cd.mro, sl.toList with
    | .ref C' :: bm, [_, _, _, _, some (.builtin n), _] => decide (C' = C) && (decide (n = "ValueError.__new__") && (cd.hasDict && (!cd.hasDel && PySem.HandSPX.refsVE bm)))
    | _, _ => false)
  | _ => false) && (decide (PySem.W.findIn K (.ref C) "__setattr__" = some (some (.builtin "object.__setattr__"))) && (decide (PySem.W.subIn K (.ref C) (.type "BaseException") = some true) && (decide (PySem.W.typeIn K (.ref C) = some (.type "type")) && PySem.W.keepIn K (.ref C))))
theorem oexB_ok {K : PySem.W.Frag} {C : Addr} (h : oexB K C = true) : OexC K C := by
  obtain ⟨h1, h⟩ := andT h
  obtain ⟨h2, h⟩ := andT h
  obtain ⟨h3, h⟩ := andT h
  obtain ⟨h4, h5⟩ := andT h
  refine ⟨?_, of_decide_eq_true h2, of_decide_eq_true h3, of_decide_eq_true h4, h5⟩
  split at h1
  · rename_i t dd cd sl q
    obtain ⟨g1, g⟩ := andT h1
    split at g
    · rename_i C' bm k0 k1 k2 k3 n k5 hm hs
      obtain ⟨g2, g⟩ := andT g
      obtain ⟨g3, g⟩ := andT g
      obtain ⟨g4, g⟩ := andT g
      obtain ⟨g5, g6⟩ := andT g
      obtain ⟨c1, c2, c3, c4, c5, c6, c7, c8, c9, c10, c11⟩ := cd
      have e1 : t = "type" := of_decide_eq_true g1
      have e2 : C' = C := of_decide_eq_true g2
      have e3 : n = "ValueError.__new__" := of_decide_eq_true g3
      have e4 : c6 = true := g4
      have e5 : c11 = false := by
        cases c11 with
        | false => rfl
        | true => cases g5
      have e6 : c3 = .ref C' :: bm := hm
      obtain ⟨sl⟩ := sl
      have e7 : sl = [k0, k1, k2, k3, some (.builtin n), k5] := hs
      subst e1 e2 e3 e4 e5 e6 e7
      exact ⟨c1, c5, c4, c2, bm, c7, c8, c9, c10, dd, k0, k1, k2, k3, k5, q, g6⟩
    · cases g
  · cases h1
def eccB (K : PySem.W.Frag) (C : Addr) : Bool := xfB K C && (decide (PySem.W.findIn K (.ref C) "__class__" = some (some (.builtin "object.__class__"))) && (decide (PySem.W.specialIn K (.builtin "object.__class__") "__get__" = some (some (.builtin "getset_descriptor.__get__"))) &&
  (decide (PySem.W.takesIn K (.builtin "object.__class__") = some true) && decide (PySem.W.mroIn K C (.type "object") = some true))))
theorem eccB_ok {K : PySem.W.Frag} {C : Addr} (h : eccB K C = true) : ExcC K C := by
  obtain ⟨h1, h⟩ := andT h
  obtain ⟨h2, h⟩ := andT h
  obtain ⟨h3, h⟩ := andT h
  obtain ⟨h4, h5⟩ := andT h
  have x := xfB_ok h1
  exact ⟨x.ga, x.gg, x.exC, x.hdC, of_decide_eq_true h2, of_decide_eq_true h3, of_decide_eq_true h4, of_decide_eq_true h5⟩
end Ev
set_option Elab.async false
set_option linter.all false
set_option autoImplicit false
set_option maxRecDepth 100000
set_option maxHeartbeats 8000000
/-! E30: the end: the law's call from the claim's caller, its guards known. -/
namespace Ev
open PySem PySem.Spec PyProof.Rows L2 TL
def scrO (us : List Value) : Obj := { cls := .type "list", data := .seq us.toArray }
def tabO : Obj := { cls := .none, data := .fields #[] }
/-- what is tracked at the call: the script, frozen; the tables, empty -/
def hpS (a : Addr) (us : List Value) (ns : List Int) (ts : List Addr) : Hp := fun b =>
  if b = a then some (.frz (scrO us) (.lst (ns.map V.int)))
  else if b ∈ ts then some (.tbl #[])
  else none
/-- at the law's call -/
structure AtS (K : PySem.W.Frag) (mg mb : Str → Option Value) (a : Addr) (us : List Value) (ns : List Int) (cs : List (Addr × Addr)) (s : Shared) : Prop where
  kin : K.In s.heap
  nsg : s.heap.Ns mainGlobals mg
  nsb : s.heap.Ns builtinsNs mb
  boot : ∀ x : Str, x ≠ "__name__" → mb x = bootBuiltins x
  lim : s.heap.NoLimit
  gens : s.gens = #[]
  tabs : ∀ p ∈ cs, s.heap.get? p.2 = some tabO
  tabK : ∀ p ∈ cs, K.lookup p.2 = none
  code : ∀ p ∈ cs, PySem.W.CodeHd s.heap p.1 p.2
  bm : ∃ (m : Addr) (ob : Obj), mg "__builtins__" = some (.ref m) ∧ m ≠ builtinsNs ∧ s.heap.get? m = some ob ∧ ob.cls = .type "module" ∧ ob.dict = some builtinsNs ∧ ob.data = .plain
  scr : s.heap.get? a = some (scrO us)
  allI : IntsAre us ns
  short : ns.length ≤ sizeLine
  outK : K.lookup a = none
section
variable {K : PySem.W.Frag} {mg mb : Str → Option Value} {a : Addr} {us : List Value} {ns : List Int} {cs : List (Addr × Addr)} {s : Shared}
abbrev tsOf (cs : List (Addr × Addr)) : List Addr := cs.map fun p => p.2
theorem hpS_a {ts : List Addr} : hpS a us ns ts a = some (.frz (scrO us) (.lst (ns.map V.int))) := if_pos rfl
theorem hpS_cases {ts : List Addr} (b : Addr) : (b = a ∧ hpS a us ns ts b = some (.frz (scrO us) (.lst (ns.map V.int)))) ∨ (b ≠ a ∧ b ∈ ts ∧ hpS a us ns ts b = some (.tbl #[])) ∨ (b ≠ a ∧ b ∉ ts ∧ hpS a us ns ts b = none) := by
  unfold hpS
  by_cases h1 : b = a
  · exact .inl ⟨h1, if_pos h1⟩
  · by_cases h2 : b ∈ ts
    · exact .inr (.inl ⟨h1, h2, by rw [if_neg h1, if_pos h2]⟩)
    · exact .inr (.inr ⟨h1, h2, by rw [if_neg h1, if_neg h2]⟩)
theorem AtS.tabs' (Z : AtS K mg mb a us ns cs s) {b : Addr} (h : b ∈ tsOf cs) : s.heap.get? b = some tabO ∧ K.lookup b = none := by
  obtain ⟨p, hp, e⟩ := List.mem_map.mp h
  subst e
  exact ⟨Z.tabs p hp, Z.tabK p hp⟩
theorem AtS.aT (Z : AtS K mg mb a us ns cs s) : a ∉ tsOf cs := fun h => by
  have q := Z.scr.symm.trans (Z.tabs' h).1
  cases q
/-- neither a list nor an empty table -/
theorem AtS.far (Z : AtS K mg mb a us ns cs s) {b : Addr} {o : Obj} (e : s.heap.get? b = some o) (h1 : o.data ≠ (scrO us).data) (h2 : o.data ≠ tabO.data) : hpS a us ns (tsOf cs) b = none := by
  rcases hpS_cases (a := a) (us := us) (ns := ns) (ts := tsOf cs) b with ⟨x, _⟩ | ⟨_, y, _⟩ | ⟨_, _, z⟩
  · subst x
    have q := Z.scr.symm.trans e
    cases q
    exact absurd rfl h1
  · have q := (Z.tabs' y).1.symm.trans e
    cases q
    exact absurd rfl h2
  · exact z
theorem AtS.left (Z : AtS K mg mb a us ns cs s) {b : Addr} {o : Obj} (e : s.heap.get? b = some o) (h1 : o.data ≠ (scrO us).data) (h2 : o.data ≠ tabO.data) : (hidT s.heap (hpS a us ns (tsOf cs))).get? b = some o := hidT_get e (Z.far e h1 h2)
theorem AtS.leftNs (Z : AtS K mg mb a us ns cs s) {b : Addr} {m : Str → Option Value} (h : s.heap.Ns b m) : (hidT s.heap (hpS a us ns (tsOf cs))).Ns b m := by
  obtain ⟨o, es, ep, e, dd, r⟩ := h
  refine ⟨o, es, ep, Z.left e ?_ ?_, dd, r⟩
  · rw [dd]
    exact fun z => nomatch z
  · rw [dd]
    exact fun z => nomatch z
theorem AtS.leftK (Z : AtS K mg mb a us ns cs s) : K.In (hidT s.heap (hpS a us ns (tsOf cs))) := fun b o e => by
  refine hidT_get (Z.kin b o e) ?_
  rcases hpS_cases (a := a) (us := us) (ns := ns) (ts := tsOf cs) b with ⟨x, _⟩ | ⟨_, y, _⟩ | ⟨_, _, z⟩
  · subst x
    exact absurd (Z.outK.symm.trans e) (fun q => nomatch q)
  · exact absurd ((Z.tabs' y).2.symm.trans e) (fun q => nomatch q)
  · exact z
theorem AtS.hok (Z : AtS K mg mb a us ns cs s) {P : Program} {w : World} : HOk P w (hpS a us ns (tsOf cs)) s.heap := fun b u e => by
  rcases hpS_cases (a := a) (us := us) (ns := ns) (ts := tsOf cs) b with ⟨x, q⟩ | ⟨_, y, q⟩ | ⟨_, _, q⟩
  · have q' := q.symm.trans e
    cases q'
    subst x
    exact ⟨Z.scr, by rw [List.length_map]; exact Z.short, us, _, vals_ints Z.allI, Z.scr⟩
  · have q' := q.symm.trans e
    cases q'
    exact (Z.tabs' y).1
  · exact absurd (q.symm.trans e) (fun z => nomatch z)
theorem AtS.tabB (Z : AtS K mg mb a us ns cs s) : ∀ p ∈ cs, LamX.TabB (hidT s.heap (hpS a us ns (tsOf cs))) mg p.1 p.2 := fun p hp => by
  have tp := Z.tabs p hp
  have gne : ∀ {x : Addr} {m : Str → Option Value}, s.heap.Ns x m → x ≠ p.2 := fun {x m} hx z => by
    obtain ⟨o, es, ep, e, dd, _⟩ := hx
    rw [z, tp] at e
    cases e
    cases dd
  refine ⟨?_, ?_, gne Z.nsg⟩
  · obtain ⟨o, fs, fl, t1, gs, t2, b1, tx, t3, g1, r⟩ := Z.code p hp
    refine ⟨o, fs, fl, t1, gs, t2, b1, tx, t3, Z.left g1 ?_ ?_, r⟩
    · rw [r.2.1]
      exact fun z => nomatch z
    · rw [r.2.1]
      intro z
      cases z
      have := r.2.2.1
      simp at this
  · obtain ⟨m, ob, m1, m2, m3, m4, m5, m6⟩ := Z.bm
    refine ⟨m, ob, m1, m2, fun z => ?_, fun z => ?_, Z.left m3 (by rw [m6]; exact fun z => nomatch z) (by rw [m6]; exact fun z => nomatch z), m4, m5, m6⟩
    · obtain ⟨o, es, ep, e, dd, _⟩ := Z.nsg
      rw [← z, m3] at e
      cases e
      rw [m6] at dd
      cases dd
    · rw [z, tp] at m3
      cases m3
      cases m6
theorem AtS.env (Z : AtS K mg mb a us ns cs s) {P : Program} {w : World} : Env0 P w K mg (hidT s.heap (hpS a us ns (tsOf cs))) callerA [] s (hpS a us ns (tsOf cs)) where
  frames := rfl
  mod := ⟨Z.leftK, Z.leftNs Z.nsg, ⟨mb, Z.leftNs Z.nsb, Z.boot⟩, by
    obtain ⟨m, h1, h2⟩ := Z.lim
    exact ⟨m, Z.leftNs h1, h2⟩⟩
  bs := fun b o e => of_hidT e
  bsz := Nat.le_of_eq (hidT_size _ _)
  funs := trivial
  frf := fun b hb => by cases (show b ∈ ([] : List Addr) from hb)
  hok := Z.hok
  bare := .of_eq Z.gens
/-- the call -/
theorem law_callG {P : Program} {w : World} {g : Bool} {k : Nat} {f : Addr} {fd : FuncData} {x : Str} {sp : Sp} (Z : AtS K mg mb a us ns cs s) (hr : Room k callerA)
    (F : ∀ base : Heap, K.In base → base.Ns mainGlobals mg → (∀ p ∈ cs, LamX.TabB base mg p.1 p.2) → FnX P w K mg base g k f fd [x] sp) (hb : ∀ (s : Shared) (u : Value), BindsTo s fd ⟨[u], []⟩ [(x, u)])
    (h : sp [.ref a] (hpS a us ns (tsOf cs)) (fun v _ => v = .bl true) fun _ _ _ => False) :
    codeAny (model P w) callerA (.call (.ref f) ⟨[.ref a], []⟩) (fun r s' => r = .ok (.ret (.bool true)) ∧ OldK s.heap s'.heap ∧ s'.os = s.os ∧ AllBare s'.gens) s := by
  refine codeAny_mono ((F _ Z.leftK (Z.leftNs Z.nsg) Z.tabB).run callerA [] s _ ⟨[.ref a], []⟩ [.ref a] [.ref a] _ _ hr (fun _ => rfl) Z.env (hb s (.ref a)) (.cons rfl .nil) h) fun r s' q => ?_
  cases r with
  | error e =>
    obtain ⟨_, _, _, _, _, _, _, _, _, _, _, _, z⟩ := q
    exact z.elim
  | ok fl =>
    cases fl with
    | next => exact False.elim q
    | brk => exact False.elim q
    | cont => exact False.elim q
    | ret u =>
      obtain ⟨v, H', eos, bare, un, ok', rv, qv⟩ := q
      have qv' : v = .bl true := qv
      rw [qv'] at rv
      have eu : u = Value.bool true := rv
      rw [eu]
      have still : ∀ b o, b ∉ tsOf cs → s.heap.get? b = some o → s'.heap.get? b = some o := fun b o nb e => by
        rcases hpS_cases (a := a) (us := us) (ns := ns) (ts := tsOf cs) b with ⟨_, z⟩ | ⟨_, y, _⟩ | ⟨_, _, z⟩
        · have e1 := (Z.hok (P := P) (w := w) b _ z).1
          have e2 := (ok' b _ (un.frzs b _ _ z)).1
          rw [e] at e1
          cases e1
          exact e2
        · exact absurd y nb
        · exact un.keep b o e z (by intro q; cases (show b ∈ ([] : List Addr) from q)) (by simp)
      have more : ∀ p ∈ cs, ∃ m : Array Value, s'.heap.get? p.2 = some { cls := .none, data := .fields m } := fun p hp => by
        have z : hpS a us ns (tsOf cs) p.2 = some (.tbl #[]) := by
          rcases hpS_cases (a := a) (us := us) (ns := ns) (ts := tsOf cs) p.2 with ⟨q, _⟩ | ⟨_, _, z⟩ | ⟨_, y, _⟩
          · exact absurd (List.mem_map.mpr ⟨p, hp, q⟩) Z.aT
          · exact z
          · exact absurd (List.mem_map.mpr ⟨p, hp, rfl⟩) y
        obtain ⟨m, q⟩ := un.tbls p.2 _ z
        exact ⟨_, ok' p.2 _ q⟩
      refine ⟨rfl, ⟨fun b o e => ?_, fun b o e => ?_⟩, eos, bare⟩
      · by_cases y : b ∈ tsOf cs
        · obtain ⟨p, hp, ep⟩ := List.mem_map.mp y
          obtain ⟨m, hm⟩ := more p hp
          subst ep
          rw [Z.tabs p hp] at e
          cases e
          exact .inr (.inl ⟨((Z.code p hp).tab (Z.tabs p hp)).isCodeTable, rfl, #[], m, rfl, by rw [Array.empty_append]; exact hm⟩)
        · exact .inl (still b o y e)
      · by_cases y : b ∈ tsOf cs
        · obtain ⟨p, hp, ep⟩ := List.mem_map.mp y
          obtain ⟨m, hm⟩ := more p hp
          subst ep
          exact ⟨_, hm⟩
        · exact ⟨o, still b o y e⟩
end
end Ev
set_option Elab.async false
set_option linter.all false
set_option autoImplicit false
set_option maxRecDepth 100000
set_option maxHeartbeats 8000000
/-! E31: from the head's facts to the module. -/
namespace Ev
open PySem PySem.Spec PyProof.Rows L2 TL
section
variable {gi : Gi} {P : Program} {w : World} {K : PySem.W.Frag} {mg : Str → Option Value} {base h : Heap} {Γ : Gd} {G : Prg}
/-- a def's code object and table -/
def lamT (K : PySem.W.Frag) (x : Str) : Addr × Str := ((He.cT K (x, none)).2, x ++ ".<locals>." ++ "<lambda>")
/-- how it binds -/
def BindP (fi : FI) (params : Arguments) (body : List Stmt) (scope : Scope) : Prop := ∀ (kV doc pm : Value) (an : Option Addr) (cdv ct : Value) (us : List Value), us.length = fi.ps.length → bindArgs (PySem.W.fnOf fi.name fi.name params body scope .none kV doc pm an cdv ct) ⟨us, []⟩ = pure (fi.ps.zip us)
def BindK (fi : FI) (params : Arguments) (body : List Stmt) (scope : Scope) (n : Nat) (ks : List Str) (p : List Nat) : Prop := ∀ (kV doc pm : Value) (an : Option Addr) (cdv ct : Value) (us ws vs : List Value), us.length = n → ws.length = ks.length → permV p (us ++ ws) = some vs → vs.length = fi.ps.length →
  bindArgs (PySem.W.fnOf fi.name fi.name params body scope .none kV doc pm an cdv ct) ⟨us, ks.zip ws⟩ = pure (fi.ps.zip vs)
theorem DefOk.of {i m : Nat} {fi : FI} {f : Addr} {fd : FuncData} {params : Arguments} {body : List Stmt} {scope : Scope} {N : List Str} {lam : Bool} {ir : List Sm} {cs : List (Addr × Addr)} (hf : f = He.fAd K (fi.name, none)) (F : FunD K fi.name fi.name params body scope [] [] f fd)
    (hg : mg fi.name = some (.ref f)) (S : FnScope N fi.ps scope) (tr : body.mapM (trS gi m (ctOf fi N scope lam)) = some ir) (hG : G.fns i = some ⟨fi.ps.length, N.length, ir⟩)
    (hcs : ∀ p ∈ cs, LamX.TabB base mg p.1 p.2) (hl : lam = true → He.cT K (fi.name, none) ∈ cs ∧ lamT K fi.name ∈ Γ.T ∧ ∀ p ∈ Γ.T, p.1 = (lamT K fi.name).1 → p.2 = (lamT K fi.name).2) (hp : BindP fi params body scope) (hk : ∀ q ∈ fi.kw, BindK fi params body scope q.1 q.2.1 q.2.2)
    (ht : fi.thk = true → fi.g = false ∧ ∃ a, fi.ps = [a] ∧ plainNm a = true) : DefOk gi K mg base Γ G i fi f fd := by
  obtain ⟨oc, od, dV, kV, doc, pm, an, cdv, ct, osl, rfl, lk, hcd, hD, _⟩ := F.ex
  have eD : dV = .none := by
    rcases hD with ⟨_, e⟩ | ⟨e, _⟩
    · exact e
    · exact absurd rfl e
  subst eD
  refine ⟨⟨params, body, scope, .none, kV, doc, pm, cdv, ct, oc, an, od, osl, N, lam, m, ir, rfl, hg, F.kp, lk, hcd, S, tr, hG, fun z => ?_⟩, ⟨fun s us ws vs X l1 l2 e l3 => ?_⟩, fun q hq => ⟨fun s us ws vs X l1 l2 e l3 => ?_⟩, fun z => ?_⟩
  · obtain ⟨h1, h2, h3⟩ := hl z
    obtain ⟨c, ec⟩ := He.codeIn_ref hcd
    have e1 : He.codeOf K (fi.name, none) = c := He.codeOf_eq (by rw [← hf]; exact lk) ec
    refine ⟨c, (He.cT K (fi.name, none)).2, ?_, ec, fun L => ⟨h2, h3⟩⟩
    have := hcs _ h1
    rw [show (He.cT K (fi.name, none)).1 = c from e1] at this
    exact this
  · have ew : ws = [] := List.length_eq_zero_iff.mp l2
    subst ew
    have ev : us = vs := by
      have e' : some (us ++ []) = some vs := e
      rw [List.append_nil] at e'
      exact Option.some.inj e'
    subst ev
    exact .of_eq (hp kV doc pm an cdv ct us l1)
  · exact .of_eq (hk q hq kV doc pm an cdv ct us ws vs l1 l2 e l3)
  · obtain ⟨h1, a, ha, hn⟩ := ht z
    refine ⟨h1, a, ha, hn, ?_⟩
    rw [← ha]
    exact .all (hp kV doc pm an cdv ct)
/-! ### what a Bool tells -/
def cstB (K : PySem.W.Frag) (tb : List (Addr × List Str)) (l : List (Str × D)) : Bool := l.all fun q => match PySem.W.nsIn K mainGlobals q.1 with
  | some (some u) => relK K tb q.2 u
  | _ => false
theorem lookup_memD {x : Str} {d : D} : ∀ {l : List (Str × D)}, l.lookup x = some d → (x, d) ∈ l
  | [], h => by cases h
  | (y, e) :: r, h => by
    rw [List.lookup_cons] at h
    split at h
    · rename_i q
      cases h
      rw [eq_of_beq q]
      exact List.mem_cons_self ..
    · exact List.mem_cons_of_mem _ (lookup_memD h)
theorem cstB_ok {tb : List (Addr × List Str)} {l : List (Str × D)} (hT : ∀ t ∈ tb, ∃ es n, KDict Γ.K Γ.w t.1 es n) (X : Γ.K.In h) (Gn : h.Ns mainGlobals mg) (e : cstB Γ.K tb l = true) {x : Str} {d : D} (hl : l.lookup x = some d) : ∃ v u, mg x = some u ∧ RelV v u ∧ ∀ ρ H, Rel Γ ρ H d v := by
  have q := List.all_eq_true.mp e _ (lookup_memD hl)
  simp only at q
  split at q
  · rename_i u eu
    obtain ⟨v, r1, r2⟩ := relK_ok hT q
    exact ⟨v, u, PySem.W.mg_of X Gn eu, r1, r2⟩
  · cases q
/-- no list of whole numbers alone -/
def noInts (K : PySem.W.Frag) : Bool := K.all fun q => match q.2.data with
  | .seq its _ => !decide (q.2.cls = .type "list") || its.any fun v => match v with
    | .int _ _ => false
    | _ => true
  | _ => true
theorem ints_all : ∀ {ns : List Int} {us : List Value}, Vals (ns.map V.int) us → ∀ v ∈ us, ∃ i t, v = .int i t
  | [], us, h, v, hv => by
    cases h
    cases hv
  | n :: ns, [], h, v, hv => by cases hv
  | n :: ns, u :: us, h, v, hv => by
    cases h with
    | cons r rs =>
      rcases List.mem_cons.mp hv with z | z
      · obtain ⟨t, e⟩ := r
        exact ⟨n, t, z.trans e⟩
      · exact ints_all rs v z
theorem noInts_ok {s : Shared} {a : Addr} {us : List Value} {ns : List Int} (e : noInts K = true) (X : K.In s.heap) (ha : s.heap.get? a = some (scrO us)) (hi : IntsAre us ns) : K.lookup a = none := by
  cases q : K.lookup a with
  | none => rfl
  | some o =>
    have e1 := X a o q
    rw [ha] at e1
    cases e1
    have e2 := List.all_eq_true.mp e _ (He.lookup_mem q)
    have e3 : (!decide (Value.type "list" = Value.type "list") || us.toArray.any fun v => match v with
      | .int _ _ => false
      | _ => true) = true := e2
    rw [decide_eq_true rfl] at e3
    have e4 : (us.any fun v => match v with
      | .int _ _ => false
      | _ => true) = true := by simpa using e3
    obtain ⟨v, hv, e5⟩ := List.any_eq_true.mp e4
    have hr := vals_ints hi
    obtain ⟨i, t, e6⟩ := ints_all hr v hv
    rw [e6] at e5
    cases e5
end
end Ev
set_option Elab.async false
set_option linter.all false
set_option autoImplicit false
set_option maxRecDepth 100000
set_option maxHeartbeats 4000000
/-! E32: the evaluator by rules (plain Lean). -/
namespace Ev.Ru
open PySem PySem.Spec PyProof.Rows L2 TL Ev
section
variable {P : Pg} {n : Nat} {env env1 : EnvD} {S S1 S2 S3 : Sto} {r : R D} {rs : RS} {a b c e it : Ex} {es : List Ex} {x y z v d : D} {ds ds' : List D} {f i j k : Nat} {p : List Nat} {bf : Bf} {mt : Mt} {o o' : CmpOp} {op : Operator} {t : Tg} {src : Src} {q q' : Bool} {ss ss' : List Sm} {s : Sm}
theorem re_var (h : env[i]? = some (some d)) : evE P (n + 1) (.var i) env S = .ok d S := by
  unfold evE
  simp only [h]
theorem re_tup (h : evEs P n es env S = .ok ds S1) : evE P (n + 1) (.tup es) env S = .ok (.tup ds) S1 := by
  unfold evE
  simp only [h, R.bind]
theorem re_lst (h : evEs P n es env S = .ok ds S1) : evE P (n + 1) (.lst es) env S = .ok (.lst ds) S1 := by
  unfold evE
  simp only [h, R.bind]
theorem re_new (h : evE P n e env S = .ok (.lst ds) S1) : evE P (n + 1) (.new e) env S = .ok (.ref S1.length) (S1 ++ [.lst ds]) := by
  unfold evE
  simp only [h, R.bind]
theorem re_bop (h1 : evE P n a env S = .ok x S1) (h2 : evE P n b env S1 = .ok y S2) (h : bopD op (x.look S2) (y.look S2) = some d) : evE P (n + 1) (.bop op a b) env S = .ok d S2 := by
  unfold evE
  simp only [h1, h2, h, R.bind, R.of]
theorem re_cmp (h1 : evE P n a env S = .ok x S1) (h2 : evE P n b env S1 = .ok y S2) (h : cmpD o (x.look S2) (y.look S2) = some d) : evE P (n + 1) (.cmp o a b) env S = .ok d S2 := by
  unfold evE
  simp only [h1, h2, h, R.bind, R.of]
theorem re_cmp2T (h1 : evE P n a env S = .ok x S1) (h2 : evE P n b env S1 = .ok y S2) (h : cmpD o (x.look S2) (y.look S2) = some (.bl true)) (h3 : evE P n c env S2 = .ok z S3) (h4 : cmpD o' (y.look S3) (z.look S3) = some d) : evE P (n + 1) (.cmp2 o o' a b c) env S = .ok d S3 := by
  unfold evE
  simp only [h1, h2, h, h3, h4, R.bind, R.of]
theorem re_cmp2F (h1 : evE P n a env S = .ok x S1) (h2 : evE P n b env S1 = .ok y S2) (h : cmpD o (x.look S2) (y.look S2) = some (.bl false)) : evE P (n + 1) (.cmp2 o o' a b c) env S = .ok (.bl false) S2 := by
  unfold evE
  simp only [h1, h2, h, R.bind, R.of]
theorem re_andT (h1 : evE P n a env S = .ok x S1) (h : (x.look S1).truth = some true) (h2 : evE P n b env S1 = r) : evE P (n + 1) (.and_ a b) env S = r := by
  unfold evE
  simp only [h1, h2, h, R.bind]
theorem re_andF (h1 : evE P n a env S = .ok x S1) (h : (x.look S1).truth = some false) : evE P (n + 1) (.and_ a b) env S = .ok x S1 := by
  unfold evE
  simp only [h1, h, R.bind]
theorem re_not (h1 : evE P n a env S = .ok x S1) (h : (x.look S1).truth = some q) : evE P (n + 1) (.not_ a) env S = .ok (.bl (!q)) S1 := by
  unfold evE
  simp only [h1, h, R.bind]
theorem re_iteT (h1 : evT P n c env S = .ok true S1) (h2 : evE P n a env S1 = r) : evE P (n + 1) (.ife c a b) env S = r := by
  unfold evE
  simp only [h1, h2, R.bind, if_true]
theorem re_iteF (h1 : evT P n c env S = .ok false S1) (h2 : evE P n b env S1 = r) : evE P (n + 1) (.ife c a b) env S = r := by
  unfold evE
  simp only [h1, h2, R.bind]
  rfl
theorem re_sub (h1 : evE P n a env S = .ok x S1) (h2 : evE P n b env S1 = .ok y S2) (h : subD (x.look S2) y = some d) : evE P (n + 1) (.sub a b) env S = .ok d S2 := by
  unfold evE
  simp only [h1, h2, h, R.bind, R.of]
theorem re_call (h : evEs P n es env S = .ok ds S1) (hp : permD p ds = some ds') (hc : P.call f ds' S1 = r) : evE P (n + 1) (.call f es p) env S = r := by
  unfold evE
  simp only [h, hp, hc, R.bind]
theorem re_bif (h : evEs P n es env S = .ok ds S1) (hb : bifD bf (ds.map fun d => d.look S1) = some d) : evE P (n + 1) (.bif bf es) env S = .ok d S1 := by
  unfold evE
  simp only [h, hb, R.bind, R.of]
theorem re_isi {cl : Cl} (h1 : evE P n a env S = .ok x S1) (h : isiD cl (x.look S1) = some q) : evE P (n + 1) (.isi a cl) env S = .ok (.bl q) S1 := by
  unfold evE
  simp only [h1, h, R.bind, R.of, Option.map]
theorem res_nil : evEs P (n + 1) [] env S = .ok [] S := rfl
theorem res_cons (h1 : evE P n e env S = .ok d S1) (h2 : evEs P n es env S1 = .ok ds S2) : evEs P (n + 1) (e :: es) env S = .ok (d :: ds) S2 := by
  unfold evEs
  simp only [h1, h2, R.bind]
theorem rt_andT (h1 : evT P n a env S = .ok true S1) {r : R Bool} (h2 : evT P n b env S1 = r) : evT P (n + 1) (.and_ a b) env S = r := by
  unfold evT
  simp only [h1, h2, R.bind, if_true]
theorem rt_andF (h1 : evT P n a env S = .ok false S1) : evT P (n + 1) (.and_ a b) env S = .ok false S1 := by
  unfold evT
  simp only [h1, R.bind]
  rfl
theorem rt_orF (h1 : evT P n a env S = .ok false S1) {r : R Bool} (h2 : evT P n b env S1 = r) : evT P (n + 1) (.or_ a b) env S = r := by
  unfold evT
  simp only [h1, h2, R.bind]
  rfl
theorem rt_orT (h1 : evT P n a env S = .ok true S1) : evT P (n + 1) (.or_ a b) env S = .ok true S1 := by
  unfold evT
  simp only [h1, R.bind, if_true]
theorem rt_not (h1 : evT P n a env S = .ok q S1) : evT P (n + 1) (.not_ a) env S = .ok (!q) S1 := by
  unfold evT
  simp only [h1, R.bind]
theorem rs_ret (h : evE P n e env S = .ok d S1) : evS P (n + 1) (.ret e) env S = .ok (.ret d) env S1 := by
  unfold evS
  simp only [h, RS.at_]
theorem rs_asg (h : evE P n e env S = .ok d S1) (ht : tgD t d env = some env1) : evS P (n + 1) (.asg t e) env S = .ok .nx env1 S1 := by
  unfold evS
  simp only [h, ht, RS.at_]
theorem rs_iffT (h1 : evT P n c env S = .ok true S1) (h2 : evSs P n ss env S1 = rs) : evS P (n + 1) (.iff c ss ss') env S = rs := by
  unfold evS
  simp only [h1, h2, RS.at_, if_true]
theorem rs_iffF (h1 : evT P n c env S = .ok false S1) (h2 : evSs P n ss' env S1 = rs) : evS P (n + 1) (.iff c ss ss') env S = rs := by
  unfold evS
  simp only [h1, h2, RS.at_]
  rfl
theorem rss_nx (h1 : evS P n s env S = .ok .nx env1 S1) (h2 : evSs P n ss env1 S1 = rs) : evSs P (n + 1) (s :: ss) env S = rs := by
  conv => lhs; unfold evSs
  simp only [h1, h2]
theorem rss_ret (h1 : evS P n s env S = .ok (.ret d) env1 S1) : evSs P (n + 1) (s :: ss) env S = .ok (.ret d) env1 S1 := by
  conv => lhs; unfold evSs
  simp only [h1]
theorem rs_for {rs : RS} (h1 : evI P n it env S = .ok src S1) (h2 : evF P n t ss src 0 env S1 = rs) : evS P (n + 1) (.for_ t it ss) env S = rs := by
  unfold evS
  simp only [h1, h2, RS.at_]
theorem re_lc {tg : Tg} {ifs : List Ex} {own : List Nat} {xs : List D} (h1 : evI P n it env S = .ok src S1) (h2 : evL P n e tg ifs src 0 (wipeD own env) S1 = .ok xs S2) (hl : xs.length ≤ LINE) : evE P (n + 1) (.lc e tg it ifs own) env S = .ok (.lst xs) S2 := by
  unfold evE
  simp only [h1, h2, R.bind, R.nox, hl, if_true]
theorem ri_e {x : Ex} (hx : ∀ n S, evI P (n + 1) x env S = (evE P n x env S).bind fun d S => R.of (Src.of d) S) (h1 : evE P n x env S = .ok d S1) (h2 : Src.of d = some src) : evI P (n + 1) x env S = .ok src S1 := by
  rw [hx, h1]
  simp only [R.bind, h2, R.of]
/-- a comprehension over values, the store unchanged -/
theorem rL_map {slot m : Nat} {g : D → D} : ∀ (xs : List D) (n i : Nat), (∀ x ∈ xs, ∀ k, evE P (k + m) e (env.set slot (some x)) S = .ok (g x) S) → slot < env.length → xs.length + m + 2 ≤ n → evL P n e (.nm slot) [] (.fix xs) i env S = .ok (xs.map g) S
  | xs, 0, i, _, _, h => by omega
  | [], n + 1, i, _, _, _ => by
    unfold evL
    rfl
  | x :: xs, n + 1, i, hx, hs, h => by
    rw [List.length_cons] at h
    have ih := rL_map xs n (i + 1) (fun y hy => hx y (List.mem_cons_of_mem _ hy)) hs (by omega)
    have h0 := hx x (List.mem_cons_self ..) (n - m)
    rw [show n - m + m = n by omega] at h0
    have ht : tgD (.nm slot) x env = some (env.set slot (some x)) := by
      unfold tgD
      exact if_pos hs
    have h2 : evTs P n [] (env.set slot (some x)) S = .ok true S := by
      cases n with
      | zero => omega
      | succ n => rfl
    unfold evL
    simp only [Src.next, ht, h2, R.bind, if_true, h0, ih, List.map_cons]
end
end Ev.Ru
set_option Elab.async false
set_option linter.all false
set_option autoImplicit false
set_option maxRecDepth 100000
set_option maxHeartbeats 4000000
/-! E33: written numbers (plain Lean). -/
namespace Ev.Ru
open PySem PySem.Spec PyProof.Rows L2 TL Ev NumText
/-- digits alone -/
def isDs (x : List Nat) : Bool := x.all fun c => decide (48 ≤ c) && decide (c ≤ 57)
theorem isDs_all {x : List Nat} (h : isDs x = true) : AllDigits x := fun c hc => by
  have := List.all_eq_true.mp h c hc
  simpa using this
theorem fold_lt : ∀ (cs : List Nat) (acc : Nat), AllDigits cs → cs.foldl (fun acc c => acc * 10 + (c - 48)) acc < (acc + 1) * 10 ^ cs.length
  | [], acc, _ => by simp
  | c :: cs, acc, h => by
    have h1 := fold_lt cs (acc * 10 + (c - 48)) h.tail
    have h2 := h.head
    rw [List.foldl_cons, List.length_cons, Nat.pow_succ]
    refine Nat.lt_of_lt_of_le h1 ?_
    have h3 : acc * 10 + (c - 48) + 1 ≤ (acc + 1) * 10 := by omega
    calc (acc * 10 + (c - 48) + 1) * 10 ^ cs.length ≤ ((acc + 1) * 10) * 10 ^ cs.length := Nat.mul_le_mul_right _ h3
      _ = (acc + 1) * (10 ^ cs.length * 10) := by rw [Nat.mul_assoc, Nat.mul_comm 10]
theorem fold_ge : ∀ (cs : List Nat) (acc : Nat), acc * 10 ^ cs.length ≤ cs.foldl (fun acc c => acc * 10 + (c - 48)) acc
  | [], acc => by simp
  | c :: cs, acc => by
    have h1 := fold_ge cs (acc * 10 + (c - 48))
    rw [List.foldl_cons, List.length_cons, Nat.pow_succ]
    refine Nat.le_trans ?_ h1
    calc acc * (10 ^ cs.length * 10) = (acc * 10) * 10 ^ cs.length := by rw [Nat.mul_comm (10 ^ cs.length), Nat.mul_assoc]
      _ ≤ (acc * 10 + (c - 48)) * 10 ^ cs.length := Nat.mul_le_mul_right _ (Nat.le_add_right _ _)
theorem val_lt {x : List Nat} (h : AllDigits x) : digitsVal x < 10 ^ x.length := by
  have := fold_lt x 0 h
  rw [Nat.zero_add, Nat.one_mul] at this
  exact this
theorem val_ge {c : Nat} {r : List Nat} (h : 49 ≤ c) : 10 ^ r.length ≤ digitsVal (c :: r) := by
  have h1 := fold_ge r (c - 48)
  have h2 : 1 * 10 ^ r.length ≤ (c - 48) * 10 ^ r.length := Nat.mul_le_mul_right _ (by omega)
  rw [Nat.one_mul] at h2
  refine Nat.le_trans h2 (Nat.le_trans h1 ?_)
  show _ ≤ List.foldl _ (0 * 10 + (c - 48)) r
  rw [Nat.zero_mul, Nat.zero_add]
  exact Nat.le_refl _
theorem numL_head : ∀ (n : Nat), 0 < n → ∃ c r, numL n = c :: r ∧ 49 ≤ c := by
  intro n
  induction n using Nat.strongRecOn with
  | _ n ih =>
    intro h
    by_cases hn : n < 10
    · exact ⟨48 + n, [], numL_lt hn, by omega⟩
    · obtain ⟨c, r, e, hc⟩ := ih (n / 10) (by omega) (by omega)
      exact ⟨c, r ++ [48 + n % 10], by rw [numL_step (by omega), e]; rfl, hc⟩
/-- as a number is written -/
def canon (x : List Nat) : Bool := !x.isEmpty && (isDs x && (decide (x = [48]) || !decide (x.head? = some 48)))
theorem ofNat_digit {c : Nat} (h : 48 ≤ c ∧ c ≤ 57) : (Char.ofNat c).toNat = c := by
  obtain ⟨h1, h2⟩ := h
  have : ∀ k, k < 10 → (Char.ofNat (48 + k)).toNat = 48 + k := by decide
  have e := this (c - 48) (by omega)
  rw [show 48 + (c - 48) = c by omega] at e
  exact e
theorem map_back {x : List Nat} (h : AllDigits x) : (x.map Char.ofNat).map Char.toNat = x := by
  rw [List.map_map]
  have : ∀ c ∈ x, (Char.toNat ∘ Char.ofNat) c = c := fun c hc => ofNat_digit (h c hc)
  rw [List.map_congr_left this, List.map_id']
theorem numL_canon {x : List Nat} (h : isDs x = true) (hne : x ≠ []) : decide (numL (digitsVal x) = x) = (decide (x = [48]) || !decide (x.head? = some 48)) := by
  have hd := isDs_all h
  cases x with
  | nil => exact absurd rfl hne
  | cons c r =>
    have hc := hd.head
    by_cases h1 : c = 48
    · by_cases h2 : r = []
      · subst h1 h2
        decide
      · have e1 : ¬ numL (digitsVal (c :: r)) = c :: r := fun z => by
          subst h1
          by_cases h0 : digitsVal (48 :: r) = 0
          · rw [h0, numL_lt (by decide)] at z
            cases z
            exact h2 rfl
          · obtain ⟨c', r', e, h9⟩ := numL_head _ (Nat.pos_of_ne_zero h0)
            rw [e] at z
            cases z
            omega
        have e2 : ¬ c :: r = [48] := fun z => by
          cases z
          exact h2 rfl
        have e3 : (c :: r).head? = some 48 := by rw [h1]; rfl
        rw [decide_eq_false e1, decide_eq_false e2, decide_eq_true e3]
        rfl
    · have e1 : numL (digitsVal (c :: r)) = c :: r := by
        unfold numL
        rw [toDigits_digitsVal r.length (c :: r) rfl hd (.inr ⟨c, r, rfl, by omega⟩)]
        exact map_back hd
      have e3 : ¬ (c :: r).head? = some 48 := fun z => h1 (Option.some.inj z)
      rw [decide_eq_true e1, decide_eq_false e3]
      simp
theorem canon_nine {x : List Nat} (h : canon x = true) (k : Nat) (hk : 1 ≤ k) : decide (x.length ≤ k) = decide (digitsVal x ≤ 10 ^ k - 1) := by
  unfold canon at h
  obtain ⟨h1, h⟩ := Bool.and_eq_true_iff.mp h
  obtain ⟨h2, h3⟩ := Bool.and_eq_true_iff.mp h
  have hd := isDs_all h2
  have hp : 0 < 10 ^ k := Nat.pow_pos (by decide)
  by_cases hl : x.length ≤ k
  · have := val_lt hd
    have h4 : 10 ^ x.length ≤ 10 ^ k := Nat.pow_le_pow_right (by decide) hl
    rw [decide_eq_true hl, decide_eq_true (by omega)]
  · have h4 : 10 ^ k ≤ digitsVal x := by
      cases x with
      | nil => cases h1
      | cons c r =>
        have hc := hd.head
        by_cases e : c = 48
        · subst e
          rcases Bool.or_eq_true_iff.mp h3 with z | z
          · have z := of_decide_eq_true z
            cases z
            exact absurd hk (by intro q; exact hl q)
          · simp at z
        · refine Nat.le_trans ?_ (val_ge (c := c) (r := r) (by omega))
          refine Nat.pow_le_pow_right (by decide) ?_
          rw [List.length_cons] at hl
          omega
    rw [decide_eq_false hl, decide_eq_false (by omega)]
end Ev.Ru
set_option Elab.async false
set_option linter.all false
set_option autoImplicit false
set_option maxRecDepth 100000
set_option maxHeartbeats 4000000
/-! E34: rules that keep the store: conditions as Bools (plain Lean). -/
namespace Ev.Ru
open PySem PySem.Spec PyProof.Rows L2 TL Ev NumText
theorem call_of {G : Prg} {d f : Nat} {ds : List D} {S : Sto} {df : Df} {rs : RS} {r : R D} (hf : G.fns f = some df) (hl : ds.length = df.ps) (h : evSs ⟨callD G d, lamD G d, G.sub, fun _ => .bad, none⟩ FUEL df.body (df.start ds) S = rs) (he : endOf rs = r) : callD G (d + 1) f ds S = r := by
  unfold callD
  rw [hf]
  simp only [hl, if_true, h, he]
/-- the same, the body's end in one -/
theorem call_b {G : Prg} {d f : Nat} {ds : List D} {S : Sto} {df : Df} {r : R D} (hf : G.fns f = some df) (hl : ds.length = df.ps) (h : endOf (evSs ⟨callD G d, lamD G d, G.sub, fun _ => .bad, none⟩ FUEL df.body (df.start ds) S) = r) : callD G (d + 1) f ds S = r := call_of hf hl rfl h
section
variable {P : Pg} {n : Nat} {env env1 : EnvD} {S S1 S2 S3 : Sto} {r : R D} {rs : RS} {a b c e it : Ex} {es : List Ex} {x y z v d : D} {ds ds' : List D} {f i j k : Nat} {p : List Nat} {o o' : CmpOp} {t : Tg} {q q' : Bool} {ss ss' : List Sm} {s : Sm}
theorem rt_e (hx : ∀ n S, evT P (n + 1) a env S = (evE P n a env S).bind fun d S => R.of (d.look S).truth S) (h1 : evE P n a env S = .ok d S1) (h2 : (d.look S1).truth = some q) : evT P (n + 1) a env S = .ok q S1 := by
  rw [hx, h1]
  simp only [R.bind, h2, R.of]
/-- a test that answers a Bool -/
theorem rt_bl (hx : ∀ n S, evT P (n + 1) a env S = (evE P n a env S).bind fun d S => R.of (d.look S).truth S) (h1 : evE P n a env S = .ok (.bl q) S1) : evT P (n + 1) a env S = .ok q S1 := rt_e hx h1 rfl
theorem rt_or (ha : evT P n a env S = .ok q S) (hb : q = false → evT P n b env S = .ok q' S) : evT P (n + 1) (.or_ a b) env S = .ok (q || q') S := by
  cases q with
  | true => exact rt_orT ha
  | false => exact rt_orF ha (hb rfl)
theorem rt_and (ha : evT P n a env S = .ok q S) (hb : q = true → evT P n b env S = .ok q' S) : evT P (n + 1) (.and_ a b) env S = .ok (q && q') S := by
  cases q with
  | false => exact rt_andF ha
  | true => exact rt_andT ha (hb rfl)
theorem re_cmp2 (h1 : evE P n a env S = .ok x S) (h2 : evE P n b env S = .ok y S) (h3 : evE P n c env S = .ok z S) (h : cmpD o (x.look S) (y.look S) = some (.bl q)) (h4 : cmpD o' (y.look S) (z.look S) = some (.bl q')) : evE P (n + 1) (.cmp2 o o' a b c) env S = .ok (.bl (q && q')) S := by
  cases q with
  | true => exact re_cmp2T h1 h2 h h3 h4
  | false => exact re_cmp2F h1 h2 h
theorem re_ite (hc : evT P n c env S = .ok q S) (ha : q = true → evE P n a env S = .ok x S) (hb : q = false → evE P n b env S = .ok y S) : evE P (n + 1) (.ife c a b) env S = .ok (if q = true then x else y) S := by
  cases q with
  | true => exact re_iteT hc (ha rfl)
  | false => exact re_iteF hc (hb rfl)
theorem re_and (ha : evE P n a env S = .ok (.bl q) S) (hb : q = true → evE P n b env S = .ok (.bl q') S) : evE P (n + 1) (.and_ a b) env S = .ok (.bl (q && q')) S := by
  cases q with
  | false => exact re_andF ha rfl
  | true => exact re_andT ha rfl (hb rfl)
/-- if c: return e -/
theorem rss_guard (hc : evT P (n + 2) c env S = .ok q S) (h1 : q = true → evE P n e env S = .ok x S) (h2 : q = false → endOf (evSs P (n + 3) ss env S) = r) : endOf (evSs P (n + 4) (.iff c [.ret e] [] :: ss) env S) = if q = true then .ok x S else r := by
  cases q with
  | true =>
    rw [rss_ret (rs_iffT hc (rss_ret (rs_ret (h1 rfl))))]
    rfl
  | false =>
    rw [rss_nx (rs_iffF (rs := .ok .nx env S) hc rfl) rfl]
    exact h2 rfl
theorem rss_end (h : evE P n e env S = .ok d S1) : endOf (evSs P (n + 2) (.ret e :: ss) env S) = .ok d S1 := by
  rw [rss_ret (rs_ret h)]
  rfl
theorem rss_asg {rr : R D} (h : evE P n e env S = .ok d S1) (ht : tgD t d env = some env1) (h2 : endOf (evSs P (n + 1) ss env1 S1) = rr) : endOf (evSs P (n + 2) (.asg t e :: ss) env S) = rr := by
  rw [rss_nx (rs_asg h ht) rfl]
  exact h2
/-- a comprehension over a text -/
theorem re_chars {slot m : Nat} {own : List Nat} {g : Nat → D} {w : List Nat} (hi : evI P n it env S = .ok (.fix (w.map fun c => .str [c])) S) (hw : wipeD own env = env1) (hs : slot < env1.length) (hx : ∀ c ∈ w, ∀ k, evE P (k + m) e (env1.set slot (some (.str [c]))) S = .ok (g c) S) (hl : w.length + m + 2 ≤ n) (hL : w.length ≤ LINE) :
    evE P (n + 1) (.lc e (.nm slot) it [] own) env S = .ok (.lst (w.map g)) S := by
  subst hw
  have h := rL_map (P := P) (e := e) (env := wipeD own env) (S := S) (slot := slot) (m := m) (g := fun d => match d with
    | .str [c] => g c
    | _ => .non) (w.map fun c => D.str [c]) n 0 (fun x hx' k => by
      obtain ⟨c, hc, rfl⟩ := List.mem_map.mp hx'
      exact hx c hc k) hs (by rw [List.length_map]; exact hl)
  have e1 : (w.map fun c => D.str [c]).map (fun d => match d with
    | .str [c] => g c
    | _ => .non) = w.map g := by
    rw [List.map_map]
    rfl
  rw [e1] at h
  exact re_lc hi h (by rw [List.length_map]; exact hL)
/-- a comprehension over values -/
theorem re_vals {slot m : Nat} {own : List Nat} {g : D → D} {w : List D} (hi : evI P n it env S = .ok (.fix w) S) (hw : wipeD own env = env1) (hs : slot < env1.length) (hx : ∀ c ∈ w, ∀ k, evE P (k + m) e (env1.set slot (some c)) S = .ok (g c) S) (hl : w.length + m + 2 ≤ n) (hL : w.length ≤ LINE) :
    evE P (n + 1) (.lc e (.nm slot) it [] own) env S = .ok (.lst (w.map g)) S := by
  subst hw
  exact re_lc hi (rL_map w n 0 hx hs hl) (by rw [List.length_map]; exact hL)
theorem bls_map {α : Type} {g : α → Bool} : ∀ w : List α, blsOf (w.map fun c => D.bl (g c)) = some (w.map g)
  | [] => rfl
  | c :: w => by
    show (blsOf (w.map fun c => D.bl (g c))).map (g c :: ·) = _
    rw [bls_map w]
    rfl
theorem any_map {α : Type} {g : α → Bool} (w : List α) : bifD .any [.lst (w.map fun c => D.bl (g c))] = some (.bl (w.any g)) := by
  show (blsOf _).map _ = _
  rw [bls_map]
  show some (D.bl ((w.map g).any id)) = _
  rw [List.any_map]
  rfl
theorem all_map {α : Type} {g : α → Bool} (w : List α) : bifD .all [.lst (w.map fun c => D.bl (g c))] = some (.bl (w.all g)) := by
  show (blsOf _).map _ = _
  rw [bls_map]
  show some (D.bl ((w.map g).all id)) = _
  rw [List.all_map]
  rfl
end
end Ev.Ru
set_option Elab.async false
set_option linter.all false
set_option autoImplicit false
set_option maxRecDepth 100000
set_option maxHeartbeats 4000000
/-! E35: statements by what goes on behind them (plain Lean). -/
namespace Ev.Ru
open PySem PySem.Spec PyProof.Rows L2 TL Ev NumText
/-- what a run of statements gives, if k goes on behind it -/
def thenR (rs : RS) (k : EnvD → Sto → R D) : R D := match rs with
  | .ok .nx env S => k env S
  | rs => endOf rs
section
variable {P : Pg} {n : Nat} {env env1 env2 : EnvD} {S S1 S2 S3 : Sto} {r : R D} {rs : RS} {a b c e it : Ex} {es : List Ex} {x y z v d : D} {ds ds' : List D} {f i j l : Nat} {p : List Nat} {o o' : CmpOp} {t : Tg} {q q' : Bool} {ss ss' : List Sm} {s : Sm} {k : EnvD → Sto → R D} {src : Src} {xs : List D}
theorem w_end (h : thenR (evSs P n ss env S) (fun _ S => .ok .non S) = r) : endOf (evSs P n ss env S) = r := by
  rw [← h]
  cases evSs P n ss env S with
  | ok f env S => cases f <;> rfl
  | exc c fs env S => rfl
  | bad => rfl
theorem w_seq : thenR (evSs P (n + 1) (s :: ss) env S) k = thenR (evS P n s env S) (fun env S => thenR (evSs P n ss env S) k) := by
  conv => lhs; unfold evSs
  cases evS P n s env S with
  | ok f env S => cases f <;> rfl
  | exc c fs env S => rfl
  | bad => rfl
theorem w_nil (h : k env S = r) : thenR (evSs P (n + 1) [] env S) k = r := h
theorem w_ret (h : evE P n e env S = .ok d S1) : thenR (evSs P (n + 2) (.ret e :: ss) env S) k = .ok d S1 := by
  rw [w_seq, rs_ret h]
  rfl
theorem w_asg (h : evE P n e env S = .ok d S1) (ht : tgD t d env = some env1) (h2 : thenR (evSs P (n + 1) ss env1 S1) k = r) : thenR (evSs P (n + 2) (.asg t e :: ss) env S) k = r := by
  rw [w_seq, rs_asg h ht]
  exact h2
theorem w_expr (h : evE P n e env S = .ok d S1) (h2 : thenR (evSs P (n + 1) ss env S1) k = r) : thenR (evSs P (n + 2) (.expr e :: ss) env S) k = r := by
  have h1 : evS P (n + 1) (.expr e) env S = .ok .nx env S1 := by
    unfold evS
    simp only [h, RS.at_]
  rw [w_seq, h1]
  exact h2
theorem w_par (h : evE P n a env S = .ok x S1) (h' : evE P n b env S1 = .ok y S2) (hl : i < env.length ∧ j < env.length) (h2 : thenR (evSs P (n + 1) ss ((env.set i (some x)).set j (some y)) S2) k = r) : thenR (evSs P (n + 2) (.par i j a b :: ss) env S) k = r := by
  have h1 : evS P (n + 1) (.par i j a b) env S = .ok .nx ((env.set i (some x)).set j (some y)) S2 := by
    unfold evS
    simp only [h, h', RS.at_, if_pos hl]
  rw [w_seq, h1]
  exact h2
theorem w_rai (h : evEs P n es env S = .ok ds S1) : thenR (evSs P (n + 2) (.rai i es :: ss) env S) k = .exc i ds S1 := by
  have h1 : evS P (n + 1) (.rai i es) env S = .exc i ds env S1 := by
    unfold evS
    simp only [h, RS.at_]
  rw [w_seq, h1]
  rfl
theorem w_iffT {ss2 : List Sm} (h : evT P n c env S = .ok true S1) (h2 : thenR (evSs P n ss env S1) (fun env S => thenR (evSs P (n + 1) ss' env S) k) = r) : thenR (evSs P (n + 2) (.iff c ss ss2 :: ss') env S) k = r := by
  have h1 : evS P (n + 1) (.iff c ss ss2) env S = evSs P n ss env S1 := by
    unfold evS
    simp only [h, RS.at_, if_true]
  rw [w_seq, h1]
  exact h2
theorem w_iffF {ss2 : List Sm} (h : evT P n c env S = .ok false S1) (h2 : thenR (evSs P n ss env S1) (fun env S => thenR (evSs P (n + 1) ss' env S) k) = r) : thenR (evSs P (n + 2) (.iff c ss2 ss :: ss') env S) k = r := by
  have h1 : evS P (n + 1) (.iff c ss2 ss) env S = evSs P n ss env S1 := by
    unfold evS
    simp only [h, RS.at_]
    rfl
  rw [w_seq, h1]
  exact h2
/-- if c: A -/
theorem w_if (hc : evT P (n + 1) c env S = .ok q S1) (h1 : q = true → thenR (evSs P (n + 1) ss env S1) (fun env S => thenR (evSs P (n + 2) ss' env S) k) = r) (h2 : q = false → thenR (evSs P (n + 2) ss' env S1) k = r) : thenR (evSs P (n + 3) (.iff c ss [] :: ss') env S) k = r := by
  cases q with
  | true => exact w_iffT hc (h1 rfl)
  | false => exact w_iffF hc (w_nil (h2 rfl))
/-- if c: return e -/
theorem w_guard (hc : evT P (n + 2) c env S = .ok q S1) (h1 : q = true → evE P n e env S1 = .ok x S2) (h2 : q = false → thenR (evSs P (n + 3) ss' env S1) k = r) : thenR (evSs P (n + 4) (.iff c [.ret e] [] :: ss') env S) k = if q = true then .ok x S2 else r := by
  cases q with
  | true => exact w_iffT hc (w_ret (h1 rfl))
  | false => exact w_iffF hc (w_nil (h2 rfl))
theorem w_for (h : evI P n it env S = .ok src S1) (h2 : thenR (evF P n t ss src 0 env S1) (fun env S => thenR (evSs P (n + 1) ss' env S) k) = r) : thenR (evSs P (n + 2) (.for_ t it ss :: ss') env S) k = r := by
  have h1 : evS P (n + 1) (.for_ t it ss) env S = evF P n t ss src 0 env S1 := by
    unfold evS
    simp only [h, RS.at_]
  rw [w_seq, h1]
  exact h2
theorem w_fnil (h : k env S = r) : thenR (evF P (n + 1) t ss (.fix []) i env S) k = r := by
  unfold evF
  exact h
theorem w_fcons (ht : tgD t x env = some env1) (h : thenR (evSs P n ss env1 S) (fun env S => thenR (evF P n t ss (.fix xs) (i + 1) env S) k) = .ok d S2) : thenR (evF P (n + 1) t ss (.fix (x :: xs)) i env S) k = .ok d S2 := by
  unfold evF
  simp only [Src.next, ht]
  rw [← h]
  cases e : evSs P n ss env1 S with
  | ok f env S =>
    cases f with
    | nx => rfl
    | ret d => rfl
    | brk =>
      rw [e] at h
      cases h
    | cnt =>
      rw [e] at h
      cases h
  | exc c fs env S => rfl
  | bad => rfl
/-- a call by its body -/
theorem call_w {G : Prg} {m : Nat} {df : Df} (hf : G.fns f = some df) (hl : ds.length = df.ps) (h : thenR (evSs ⟨callD G m, lamD G m, G.sub, fun _ => .bad, none⟩ FUEL df.body (df.start ds) S) (fun _ S => .ok .non S) = r) : callD G (m + 1) f ds S = r := call_b hf hl (w_end h)
/-! tests, choices: any order of the store -/
theorem rt_orS (ha : evT P n a env S = .ok q S1) (h1 : q = true → S2 = S1) (hb : q = false → evT P n b env S1 = .ok q' S2) : evT P (n + 1) (.or_ a b) env S = .ok (q || q') S2 := by
  cases q with
  | true =>
    cases h1 rfl
    exact rt_orT ha
  | false => exact rt_orF ha (hb rfl)
theorem rt_andS (ha : evT P n a env S = .ok q S1) (h1 : q = false → S2 = S1) (hb : q = true → evT P n b env S1 = .ok q' S2) : evT P (n + 1) (.and_ a b) env S = .ok (q && q') S2 := by
  cases q with
  | false =>
    cases h1 rfl
    exact rt_andF ha
  | true => exact rt_andT ha (hb rfl)
theorem re_ite2 (hc : evT P n c env S = .ok q S1) (ha : q = true → evE P n a env S1 = r) (hb : q = false → evE P n b env S1 = r) : evE P (n + 1) (.ife c a b) env S = r := by
  cases q with
  | true => exact re_iteT hc (ha rfl)
  | false => exact re_iteF hc (hb rfl)
theorem re_slc {lo hi : Ex} {dl dh : D} {ol oh : Option Int} (h1 : evE P n a env S = .ok x S1) (h2 : evE P n lo env S1 = .ok dl S2) (h3 : partX lo dl = some ol) (h4 : evE P n hi env S2 = .ok dh S3) (h5 : partX hi dh = some oh) (h6 : slcP (x.look S3) ol oh = some d) : evE P (n + 1) (.slc a lo hi) env S = .ok d S3 := by
  unfold evE
  simp only [h1, h2, h3, h4, h5, h6, R.bind, R.of]
theorem re_neg {u : Int} (h1 : evE P n a env S = .ok (.int u) S1) : evE P (n + 1) (.neg a) env S = .ok (.int (-u)) S1 := by
  unfold evE
  simp only [h1, R.bind]
/-- a comprehension with its own walk -/
theorem re_lc2 {tg : Tg} {ifs : List Ex} {own : List Nat} (h1 : evI P n it env S = .ok src S1) (hw : wipeD own env = env1) (h2 : evL P n e tg ifs src 0 env1 S1 = .ok xs S2) (hl : xs.length ≤ LINE) : evE P (n + 1) (.lc e tg it ifs own) env S = .ok (.lst xs) S2 := by
  subst hw
  exact re_lc h1 h2 hl
theorem rl_nil {tg : Tg} : evL P (n + 1) e tg [] (.fix []) i env S = .ok [] S := rfl
theorem rl_cons {tg : Tg} (ht : tgD tg x env = some env1) (h : evE P (n + 1) e env1 S = .ok y S1) (h2 : evL P (n + 1) e tg [] (.fix xs) (i + 1) env S1 = .ok ds S2) : evL P (n + 2) e tg [] (.fix (x :: xs)) i env S = .ok (y :: ds) S2 := by
  unfold evL
  have h3 : evTs P (n + 1) [] env1 S = .ok true S := rfl
  simp only [Src.next, ht, h3, R.bind, if_true, h, h2]
/-- a method of a value -/
theorem re_met {m : Mt} (h1 : evE P n a env S = .ok x S1) (hk : metK m x = true) (h2 : evEs P n es env S1 = .ok ds S2) (hr : ∀ l, x ≠ .ref l) (h3 : metD m x (ds.map fun d => d.look S2) = some d) : evE P (n + 1) (.met m a es) env S = .ok d S2 := by
  unfold evE
  simp only [h1, h2, R.bind, hk, if_true]
  cases x with
  | ref l => exact absurd rfl (hr l)
  | _ => simp only [h3, R.of]
/-- a method that changes the store -/
theorem re_mets {m : Mt} (h1 : evE P n a env S = .ok (.ref l) S1) (hk : metK m (.ref l) = true) (h2 : evEs P n es env S1 = .ok ds S2) (h3 : metS m l ds S2 = r) : evE P (n + 1) (.met m a es) env S = r := by
  unfold evE
  simp only [h1, h2, R.bind, hk, if_true, h3]
theorem ri_rng {u w : Int} (h1 : evE P n a env S = .ok (.int u) S1) (h2 : evE P n b env S1 = .ok (.int w) S2) (h : (decide (-1000000 ≤ u) && decide (u ≤ 1000000) && decide (-1000000 ≤ w) && decide (w ≤ 1000000)) = true) : evI P (n + 1) (.rng a b) env S = .ok (.fix (rngD u (w - u).toNat)) S2 := by
  unfold evI
  simp only [h1, h2, R.bind]
  exact if_pos h
theorem ri_zip {ds2 : List D} (h1 : evE P n a env S = .ok x S1) (h2 : evE P n b env S1 = .ok y S2) (hx : Src.of x = some (.fix ds)) (hy : Src.of y = some (.fix ds2)) : evI P (n + 1) (.zip a b) env S = .ok (.fix (zipD ds ds2)) S2 := by
  unfold evI
  simp only [h1, h2, R.bind, hx, hy]
end
end Ev.Ru
set_option Elab.async false
set_option linter.all false
set_option autoImplicit false
set_option maxRecDepth 100000
set_option maxHeartbeats 4000000
/-! E36: values whose repr is known (plain Lean). -/
namespace Ev.Ru
open PySem PySem.Spec PyProof.Rows L2 TL Ev NumText
mutual
def okD : D → Bool
  | .non => true
  | .bl _ => true
  | .int i => decide (i.natAbs < 10 ^ 40)
  | .str w => w.all fun c => decide (c < 1114112)
  | .tup xs => okDs xs
  | .lst xs => okDs xs
  | _ => false
def okDs : List D → Bool
  | [] => true
  | x :: r => okD x && okDs r
end
mutual
def bnd : D → Nat
  | .non => 4
  | .bl _ => 5
  | .int _ => 41
  | .str w => 10 * w.length + 2
  | .tup xs => bnds xs + 3
  | .lst xs => bnds xs + 3
  | _ => 0
def bnds : List D → Nat
  | [] => 0
  | x :: r => bnd x + 2 + bnds r
end
mutual
def dep : D → Nat
  | .tup xs => deps xs + 1
  | .lst xs => deps xs + 1
  | _ => 0
def deps : List D → Nat
  | [] => 0
  | x :: r => max (dep x) (deps r)
end
theorem log2_40 {m : Nat} (h : m < 10 ^ 40) : m.log2 < 1920 := by
  by_cases h0 : m = 0
  · subst h0
    decide
  · rw [Nat.log2_lt h0]
    exact Nat.lt_trans h (by decide +kernel)
theorem show_len {i : Int} (h : i.natAbs < 10 ^ 40) : (showInt i).length ≤ 41 := by
  cases i with
  | ofNat n => exact Nat.le_trans (numL_len (k := 40) (by decide) h) (by decide)
  | negSucc n =>
    show (numL (n + 1)).length + 1 ≤ 41
    have : (numL (n + 1)).length ≤ 40 := numL_len (by decide) h
    omega
theorem shown_int (i : Int) : (PyData.shown (.int i)).length = (showInt i).length := by
  unfold PyData.shown
  show (Str.ofString (toString i)).length = _
  rw [showInt_eq]
  simp [Str.length]
theorem len_tup (ts : List Str) : (tupleText ts).length ≤ piled ts + 3 := by
  unfold tupleText
  rw [strLen_append, strLen_append]
  have e1 : ((("(" : String) : Str)).length = 1 := rfl
  have e3 : (((if ts.length == 1 then ",)" else ")" : String) : Str)).length ≤ 2 := by split <;> decide
  rw [e1]
  by_cases h : ts = []
  · subst h
    show 1 + 0 + _ ≤ _
    omega
  · have := join_length_add ts h
    omega
theorem len_lst (ts : List Str) : (listText ts).length ≤ piled ts + 3 := by
  have : ∀ (ts : List Str) (k : Nat) (acc : Str), (textFrom k acc ts).length ≤ acc.length + piled ts := by
    intro ts
    induction ts with
    | nil => intro k acc; exact Nat.le_refl _
    | cons t r ih =>
      intro k acc
      refine Nat.le_trans (ih (k + 1) _) ?_
      rw [strLen_append, strLen_append, piled_cons]
      have : ((((if k > 0 then ", " else "" : String)) : Str)).length ≤ 2 := by split <;> decide
      omega
  unfold listText
  rw [strLen_append]
  have h := this ts 0 "["
  have e1 : ((("[" : String) : Str)).length = 1 := rfl
  have e2 : ((("]" : String) : Str)).length = 1 := rfl
  omega
mutual
theorem ok_py : ∀ d : D, okD d = true → ∃ p, d.py = some p ∧ p.canLay0 = true ∧ p.showable = true ∧ p.hasDict = false ∧ p.shown.length ≤ bnd d ∧ p.depth ≤ dep d ∧ PyData.eqv p .none = isNon d
  | .non, _ => ⟨.none, rfl, rfl, rfl, rfl, by show 4 ≤ 4; omega, Nat.le_refl _, rfl⟩
  | .bl b, _ => ⟨.bool b, rfl, rfl, rfl, rfl, by cases b <;> decide, Nat.le_refl _, rfl⟩
  | .int i, h => by
    have h : i.natAbs < 10 ^ 40 := of_decide_eq_true h
    refine ⟨.int i, rfl, rfl, decide_eq_true (log2_40 h), rfl, ?_, Nat.le_refl _, rfl⟩
    rw [shown_int]
    exact show_len h
  | .str w, h => by
    have h : w.all (fun c => decide (c < 1114112)) = true := h
    have hs : PyData.strOk ⟨w.toArray⟩ = true := by
      unfold PyData.strOk
      rw [← Array.all_toList]
      exact h
    refine ⟨.str ⟨w.toArray⟩, rfl, hs, rfl, rfl, ?_, Nat.le_refl _, rfl⟩
    refine Nat.le_trans (StrLaws.reprText_len _ fun c hc => ?_) (Nat.le_of_eq ?_)
    · have := List.all_eq_true.mp h c hc
      have := of_decide_eq_true this
      exact Nat.lt_trans this (by decide)
    · simp [Str.length, bnd]
  | .tup xs, h => by
    obtain ⟨ps, e, h1, h2, h3, h4, h5, _⟩ := oks_py xs h
    have e' : D.py (.tup xs) = (D.py.pys xs).map .tuple := by
      conv => lhs; unfold D.py
    refine ⟨.tuple ps, by rw [e', e]; rfl, h1, h2, h3, ?_, Nat.succ_le_succ h5, rfl⟩
    refine Nat.le_trans (len_tup _) ?_
    show _ ≤ bnds xs + 3
    omega
  | .lst xs, h => by
    obtain ⟨ps, e, h1, h2, h3, h4, h5, _⟩ := oks_py xs h
    have e' : D.py (.lst xs) = (D.py.pys xs).map .list := by
      conv => lhs; unfold D.py
    refine ⟨.list ps, by rw [e', e]; rfl, h1, h2, h3, ?_, Nat.succ_le_succ h5, rfl⟩
    refine Nat.le_trans (len_lst _) ?_
    show _ ≤ bnds xs + 3
    omega
  | .frl _, h => by cases h
  | .dic _ _, h => by cases h
  | .wdi _ _, h => by cases h
  | .ref _, h => by cases h
  | .fn _, h => by cases h
theorem oks_py : ∀ xs : List D, okDs xs = true → ∃ ps, D.py.pys xs = some ps ∧ PyData.canLayAll0 ps = true ∧ PyData.showableAll ps = true ∧ PyData.hasDictAll ps = false ∧ piled (PyData.shownAll ps) ≤ bnds xs ∧ PyData.depthAll ps ≤ deps xs ∧ (ps.any fun z => PyData.eqv z .none) = xs.any isNon
  | [], _ => ⟨[], rfl, rfl, rfl, rfl, Nat.le_refl _, Nat.le_refl _, rfl⟩
  | x :: xs, h => by
    obtain ⟨ha, hb⟩ := Bool.and_eq_true_iff.mp h
    obtain ⟨p, e0, g1, g2, g3, g4, g5, g6⟩ := ok_py x ha
    obtain ⟨ps, e, h1, h2, h3, h4, h5, h6⟩ := oks_py xs hb
    refine ⟨p :: ps, ?_, ?_, ?_, ?_, ?_, ?_, ?_⟩
    · conv => lhs; unfold D.py.pys
      rw [e0, e]
    · show (p.canLay0 && PyData.canLayAll0 ps) = true
      rw [g1, h1]
      rfl
    · show (p.showable && PyData.showableAll ps) = true
      rw [g2, h2]
      rfl
    · show (p.hasDict || PyData.hasDictAll ps) = false
      rw [g3, h3]
      rfl
    · show piled (p.shown :: PyData.shownAll ps) ≤ bnd x + 2 + bnds xs
      rw [piled_cons]
      omega
    · show max p.depth (PyData.depthAll ps) ≤ max (dep x) (deps xs)
      omega
    · rw [List.any_cons, List.any_cons, g6, h6]
end
theorem repr_ok {d : D} (hk : reprK d = true) (h : okD d = true) (hb : bnd d ≤ LINE) (hd : dep d ≤ 64) : ∃ t, reprD d = some (.str t) := by
  obtain ⟨p, e, h1, h2, h3, h4, h5, _⟩ := ok_py d h
  unfold reprD
  rw [e]
  refine ⟨p.shown.cps.toList, ?_⟩
  have : SeqAt.shaped p = true := by
    unfold SeqAt.shaped
    rw [h1, decide_eq_true (Nat.le_trans h5 hd)]
    rfl
  simp only
  rw [hk, this, h2, h3, decide_eq_true (Nat.le_trans h4 hb)]
  rfl
theorem flat_non {ys : List D} (h : ys.all flatD = true) : (ys.any fun y => feqD y .non) = ys.any isNon := by
  induction ys with
  | nil => rfl
  | cons y r ih =>
    obtain ⟨h1, h2⟩ := Bool.and_eq_true_iff.mp h
    rw [List.any_cons, List.any_cons, ih h2]
    congr 1
    cases y <;> first | rfl | cases h1
theorem in_non {ys : List D} (h : okDs ys = true) (hd : deps ys < 64) : inD .non ys = some (ys.any isNon) := by
  unfold inD
  cases hf : ys.all flatD with
  | true =>
    show some _ = _
    rw [flat_non hf]
  | false =>
    obtain ⟨ps, e, h1, h2, h3, h4, h5, h6⟩ := oks_py ys h
    have e0 : D.py .non = some .none := rfl
    have : SeqAt.shaped (.list ps) = true := by
      unfold SeqAt.shaped
      show (PyData.canLayAll0 ps && decide (PyData.depthAll ps + 1 ≤ 64)) = true
      rw [h1, decide_eq_true (by omega)]
      rfl
    have e1 : SeqAt.shaped .none = true := rfl
    simp only [e, e0, this, e1, h6, Bool.and_false, Bool.and_true, if_true]
    rfl
end Ev.Ru
set_option Elab.async false
set_option linter.all false
set_option autoImplicit false
set_option maxRecDepth 100000
set_option maxHeartbeats 4000000
/-! E37: rules for a list's place written; comprehensions that change the store; bounds (plain Lean). -/
namespace Ev.Ru
open PySem PySem.Spec PyProof.Rows L2 TL Ev NumText
section
variable {P : Pg} {n : Nat} {env env1 env2 : EnvD} {S S1 S2 S3 : Sto} {r : R D} {a b c e it o ix : Ex} {x y z v d : D} {i j l m : Nat} {t : Tg} {ss : List Sm} {k : EnvD → Sto → R D} {xs : List D}
theorem w_asub {u : Int} (h1 : evE P n e env S = .ok d S1) (h2 : evE P n o env S1 = .ok (.ref l) S2) (h3 : evE P n ix env S2 = .ok (.int u) S3) (h4 : S3[l]? = some (.lst xs)) (h5 : ixD xs.length u = some m)
    (h6 : thenR (evSs P (n + 1) ss env (S3.set l (.lst (xs.set m d)))) k = r) : thenR (evSs P (n + 2) (.asub o ix e :: ss) env S) k = r := by
  have hh : evS P (n + 1) (.asub o ix e) env S = .ok .nx env (S3.set l (.lst (xs.set m d))) := by
    unfold evS
    simp only [h1, h2, h3, RS.at_, h4, h5]
  rw [w_seq, hh]
  exact h6
theorem w_asub2 {u : Int} (h1 : evE P n e env S = .ok (.tup [x, y]) S1) (h2 : evE P n o env S1 = .ok (.ref l) S2) (h3 : evE P n ix env S2 = .ok (.int u) S3) (h4 : S3[l]? = some (.lst xs)) (h5 : ixD xs.length u = some m) (hj : j < env.length)
    (h6 : thenR (evSs P (n + 1) ss (env.set j (some y)) (S3.set l (.lst (xs.set m x)))) k = r) : thenR (evSs P (n + 2) (.asub2 o ix j e :: ss) env S) k = r := by
  have hh : evS P (n + 1) (.asub2 o ix j e) env S = .ok .nx (env.set j (some y)) (S3.set l (.lst (xs.set m x))) := by
    unfold evS
    simp only [h1, h2, h3, RS.at_, h4, h5, if_pos hj]
  rw [w_seq, hh]
  exact h6
end
theorem look_ref {S : Sto} {l : Nat} {xs : List D} (h : S[l]? = some (.lst xs)) : (D.ref l).look S = .lst xs := by
  unfold D.look
  simp only [h]
theorem ix_nat {n i : Nat} (h : i < n) : ixD n (i : Int) = some i := by
  unfold ixD
  rw [if_pos (by omega), if_pos (by omega)]
  simp
theorem mul_r {i j : Int} (h : small64 j = true) : bopD .Mult (.int i) (.int j) = some (.int (i * j)) := by
  show (if (small64 i || small64 j) = true then _ else _) = _
  rw [h, Bool.or_true, if_pos rfl]
theorem small_of {i : Int} (h : 0 ≤ i) (h2 : i < 2147483648) : small64 i = true := by
  unfold small64
  rw [decide_eq_true (by omega), decide_eq_true (by omega)]
  rfl
/-- a comprehension whose turns change the store, an invariant of it kept -/
theorem rL_inv {P : Pg} {e : Ex} {slot m : Nat} {env : EnvD} {I : Sto → Prop} {Q : D → Prop} (hs : slot < env.length) (he : ∀ x k S, I S → ∃ y S1, Q y ∧ I S1 ∧ evE P (k + m) e (env.set slot (some x)) S = .ok y S1) :
    ∀ (xs : List D) (n i : Nat) (S : Sto), I S → xs.length + m + 2 ≤ n → ∃ ys S1, ys.length = xs.length ∧ (∀ y ∈ ys, Q y) ∧ I S1 ∧ evL P n e (.nm slot) [] (.fix xs) i env S = .ok ys S1
  | xs, 0, i, S, _, h => by omega
  | [], n + 1, i, S, hi, _ => ⟨[], S, rfl, (fun y hy => by cases hy), hi, by unfold evL; rfl⟩
  | x :: xs, n + 1, i, S, hi, h => by
    rw [List.length_cons] at h
    obtain ⟨y, S1, hq, hi1, h0⟩ := he x (n - m) S hi
    obtain ⟨ys, S2, hl, hqs, hi2, h2⟩ := rL_inv hs he xs n (i + 1) S1 hi1 (by omega)
    refine ⟨y :: ys, S2, by rw [List.length_cons, hl, List.length_cons], fun z hz => ?_, hi2, ?_⟩
    · rcases List.mem_cons.mp hz with rfl | hz
      · exact hq
      · exact hqs z hz
    · rw [show n - m + m = n by omega] at h0
      have ht : tgD (.nm slot) x env = some (env.set slot (some x)) := by
        unfold tgD
        exact if_pos hs
      have h3 : evTs P n [] (env.set slot (some x)) S = .ok true S := by
        cases n with
        | zero => omega
        | succ n => rfl
      unfold evL
      simp only [Src.next, ht, h3, R.bind, if_true, h0, h2]
theorem rng_len : ∀ (n : Nat) (lo : Int), (rngD lo n).length = n
  | 0, _ => rfl
  | n + 1, lo => congrArg Nat.succ (rng_len n (lo + 1))
end Ev.Ru
set_option Elab.async false
set_option linter.all false
set_option autoImplicit false
set_option maxRecDepth 100000
set_option maxHeartbeats 8000000
/-! K95a: the program of k95 as the evaluator reads it (printed by GEN.lean). -/
namespace Ev.K95
open PySem PySem.Spec PyProof.Rows L2 TL Ev
-- "is_integer"
def f0 : Df := ⟨1, 7, [.ret (.and_ (.isi (.var 0) .tInt) (.not_ (.isi (.var 0) .tBool)))]⟩
def N0 : List Str := ["value", "sign", "kind", "word", "part", "one", "letter"]
-- "is_between"
def f1 : Df := ⟨3, 9, [.ret (.and_ (.call 0 [(.var 0)] []) (.cmp2 .LtE .LtE (.var 1) (.var 0) (.var 2)))]⟩
def N1 : List Str := ["value", "low", "high", "sign", "kind", "word", "part", "one", "letter"]
-- "is_count"
def f2 : Df := ⟨1, 7, [.ret (.and_ (.call 0 [(.var 0)] []) (.cmp .GtE (.var 0) (.cst (.int (0)))))]⟩
def N2 : List Str := ["value", "sign", "kind", "word", "part", "one", "letter"]
-- "is_name"
def f3 : Df := ⟨1, 7, [.iff (.or_ (.not_ (.isi (.var 0) .tStr)) (.or_ (.not_ (.cmp2 .LtE .LtE (.cst (.int (1))) (.bif .len [(.var 0)]) (.cst (.int (8))))) (.cmp .In (.var 0) (.cst (.tup [.str [108, 101, 116], .str [112, 117, 116], .str [100, 114, 111, 112], .str [105, 102], .str [101, 108, 115, 101], .str [114, 101, 112, 101, 97, 116], .str [101, 97, 99, 104], .str [105, 110], .str [98, 121], .str [102, 114, 111, 109], .str [116, 111], .str [119, 104, 101, 114, 101], .str [97, 110, 115, 119, 101, 114], .str [103, 105, 118, 101], .str [117, 112], .str [115, 117, 109], .str [99, 111, 117, 110, 116], .str [111, 102], .str [104, 97, 115], .str [97, 110, 100], .str [111, 114], .str [110, 111, 116], .str [100, 101, 101, 100], .str [116, 97, 98, 108, 101], .str [105, 110, 100, 101, 120]]))))) [.ret (.cst (.bl false))] [], .ret (.bif .all [(.lc (.cmp .In (.var 1) (.cst (.str [97, 98, 99, 100, 101, 102, 103, 104, 105, 106, 107, 108, 109, 110, 111, 112, 113, 114, 115, 116, 117, 118, 119, 120, 121, 122]))) (.nm 1) (.var 0) [] [1])])]⟩
def N3 : List Str := ["value", "sign", "kind", "word", "part", "one", "letter"]
-- "is_number"
def f4 : Df := ⟨1, 7, [.ret (.call 1 [(.var 0), (.bop .Sub (.cst (.int (0))) (.cst (.int (1000000000000)))), (.cst (.int (1000000000000)))] [])]⟩
def N4 : List Str := ["value", "sign", "kind", "word", "part", "one", "letter"]
-- "count_of"
def f5 : Df := ⟨1, 6, [.iff (.or_ (.not_ (.cmp2 .LtE .LtE (.cst (.int (1))) (.bif .len [(.var 0)]) (.cst (.int (9))))) (.bif .any [(.lc (.cmp .NotIn (.var 1) (.cst (.str [48, 49, 50, 51, 52, 53, 54, 55, 56, 57]))) (.nm 1) (.var 0) [] [1])])) [.ret (.cst (.non))] [], .ret (.ife (.or_ (.cmp .Eq (.var 0) (.cst (.str [48]))) (.cmp .NotEq (.sub (.var 0) (.cst (.int (0)))) (.cst (.str [48])))) (.bif .int [(.var 0)]) (.cst (.non)))]⟩
def N5 : List Str := ["word", "sign", "kind", "part", "one", "letter"]
-- "number_of"
def f6 : Df := ⟨1, 8, [.asg (.nm 1) (.ife (.cmp .Eq (.slc (.var 0) (.cst (.non)) (.cst (.int (1)))) (.cst (.str [45]))) (.slc (.var 0) (.cst (.int (1))) (.cst (.non))) (.var 0)), .iff (.or_ (.cmp .Eq (.var 1) (.cst (.str []))) (.or_ (.bif .any [(.lc (.cmp .NotIn (.var 3) (.cst (.str [48, 49, 50, 51, 52, 53, 54, 55, 56, 57]))) (.nm 3) (.var 1) [] [3])]) (.and_ (.cmp .Gt (.bif .len [(.var 1)]) (.cst (.int (1)))) (.cmp .Eq (.sub (.var 1) (.cst (.int (0)))) (.cst (.str [48])))))) [.ret (.cst (.non))] [], .asg (.nm 2) (.ife (.cmp .Eq (.slc (.var 0) (.cst (.non)) (.cst (.int (1)))) (.cst (.str [45]))) (.bop .Sub (.cst (.int (0))) (.bif .int [(.var 1)])) (.bif .int [(.var 1)])), .ret (.ife (.or_ (.cmp .Eq (.var 0) (.cst (.str [45, 48]))) (.not_ (.call 4 [(.var 2)] []))) (.cst (.non)) (.var 2))]⟩
def N6 : List Str := ["word", "plain", "found", "sign", "kind", "part", "one", "letter"]
-- "arguments_of"
def f7 : Df := ⟨1, 7, [.iff (.cmp .Eq (.var 0) (.cst (.str [46]))) [.ret (.tup [])] [], .asg (.nm 1) (.bif .tuple [(.lc (.call 6 [(.var 4)] []) (.nm 4) (.met .split (.var 0) [(.cst (.str [44]))]) [] [4])]), .ret (.ife (.or_ (.cmp .In (.cst (.non)) (.var 1)) (.cmp .Gt (.bif .len [(.var 1)]) (.cst (.int (6))))) (.cst (.non)) (.var 1))]⟩
def N7 : List Str := ["word", "found", "sign", "kind", "part", "one", "letter"]
-- "part_of"
def f8 : Df := ⟨2, 6, [.iff (.cmp .Eq (.var 0) (.cst (.str [110]))) [.ret (.ife (.call 3 [(.var 1)] []) (.var 1) (.cst (.non)))] [], .ret (.ife (.cmp .Eq (.var 0) (.cst (.str [99]))) (.call 5 [(.var 1)] []) (.call 7 [(.var 1)] []))]⟩
def N8 : List Str := ["kind", "word", "sign", "part", "one", "letter"]
-- "parts_by"
def f9 : Df := ⟨1, 10, [.iff (.cmp .Eq (.slc (.var 0) (.cst (.non)) (.bif .len [(.cst (.str [100, 101, 101, 100, 32]))])) (.cst (.str [100, 101, 101, 100, 32]))) [.ret (.tup [(.cst (.str [100, 101, 101, 100])), (.var 0)])] [], .asg (.nm 1) (.met .split (.var 0) [(.cst (.str [32]))]), .for_ (.nm 2) (.met .get (.cst (.wdi [.str [111, 112, 101, 110], .str [98, 101, 97, 116], .str [99, 111, 109, 109, 105, 116], .str [108, 101, 97, 118, 101], .str [115, 121, 110, 99], .str [105, 109, 97, 103, 101], .str [99, 117, 116], .str [99, 108, 101, 97, 110], .str [102, 111, 114, 103, 101, 116], .str [99, 114, 97, 115, 104], .str [99, 111, 112, 121], .str [112, 117, 108, 108], .str [97, 115, 107]] [.tup [.str [110, 110, 97]], .tup [.str [110, 99]], .tup [.str [110]], .tup [.str [110]], .tup [.str []], .tup [.str []], .tup [.str []], .tup [.str []], .tup [.str []], .tup [.str [99, 99], .str [99, 99, 99, 99]], .tup [.str [110]], .tup [.str [110]], .tup [.str [110, 110, 97]]])) [(.sub (.var 1) (.cst (.int (0)))), (.tup [])]) [.iff (.cmp .Eq (.bif .len [(.var 1)]) (.bop .Add (.bif .len [(.var 2)]) (.cst (.int (1))))) [.asg (.nm 3) (.bif .tuple [(.lc (.call 8 [(.var 5), (.var 6)] []) (.tup [.nm 5, .nm 6]) (.zip (.var 2) (.slc (.var 1) (.cst (.int (1))) (.cst (.non)))) [] [5, 6])]), .ret (.ife (.cmp .NotIn (.cst (.non)) (.var 3)) (.bop .Add (.tup [(.sub (.var 1) (.cst (.int (0))))]) (.var 3)) (.cst (.non)))] []], .ret (.cst (.non))]⟩
def N9 : List Str := ["text", "words", "form", "found", "sign", "kind", "word", "part", "one", "letter"]
-- "word_part_is_right"
def f10 : Df := ⟨2, 7, [.iff (.cmp .Eq (.var 0) (.cst (.str [110]))) [.ret (.call 3 [(.var 1)] [])] [], .iff (.cmp .Eq (.var 0) (.cst (.str [99]))) [.ret (.and_ (.call 2 [(.var 1)] []) (.cmp .Lt (.var 1) (.cst (.int (1000000000)))))] [], .iff (.or_ (.not_ (.isi (.var 1) .tTup)) (.cmp .Gt (.bif .len [(.var 1)]) (.cst (.int (6))))) [.ret (.cst (.bl false))] [], .ret (.bif .all [(.lc (.call 4 [(.var 5)] []) (.nm 5) (.var 1) [] [5])])]⟩
def N10 : List Str := ["kind", "value", "sign", "word", "part", "one", "letter"]
-- "parts_are_right"
def f11 : Df := ⟨1, 8, [.iff (.or_ (.not_ (.isi (.var 0) .tTup)) (.or_ (.cmp .Eq (.bif .len [(.var 0)]) (.cst (.int (0)))) (.not_ (.isi (.sub (.var 0) (.cst (.int (0)))) .tStr)))) [.ret (.cst (.bl false))] [], .iff (.cmp .Eq (.sub (.var 0) (.cst (.int (0)))) (.cst (.str [100, 101, 101, 100]))) [.ret (.and_ (.cmp .Eq (.bif .len [(.var 0)]) (.cst (.int (2)))) (.and_ (.isi (.sub (.var 0) (.cst (.int (1)))) .tStr) (.cmp .Eq (.slc (.sub (.var 0) (.cst (.int (1)))) (.cst (.non)) (.bif .len [(.cst (.str [100, 101, 101, 100, 32]))])) (.cst (.str [100, 101, 101, 100, 32])))))] [], .for_ (.nm 1) (.met .get (.cst (.wdi [.str [111, 112, 101, 110], .str [98, 101, 97, 116], .str [99, 111, 109, 109, 105, 116], .str [108, 101, 97, 118, 101], .str [115, 121, 110, 99], .str [105, 109, 97, 103, 101], .str [99, 117, 116], .str [99, 108, 101, 97, 110], .str [102, 111, 114, 103, 101, 116], .str [99, 114, 97, 115, 104], .str [99, 111, 112, 121], .str [112, 117, 108, 108], .str [97, 115, 107]] [.tup [.str [110, 110, 97]], .tup [.str [110, 99]], .tup [.str [110]], .tup [.str [110]], .tup [.str []], .tup [.str []], .tup [.str []], .tup [.str []], .tup [.str []], .tup [.str [99, 99], .str [99, 99, 99, 99]], .tup [.str [110]], .tup [.str [110]], .tup [.str [110, 110, 97]]])) [(.sub (.var 0) (.cst (.int (0)))), (.tup [])]) [.iff (.cmp .Eq (.bif .len [(.var 0)]) (.bop .Add (.bif .len [(.var 1)]) (.cst (.int (1))))) [.ret (.bif .all [(.lc (.call 10 [(.var 3), (.var 5)] []) (.tup [.nm 3, .nm 5]) (.zip (.var 1) (.slc (.var 0) (.cst (.int (1))) (.cst (.non)))) [] [3, 5])])] []], .ret (.cst (.bl false))]⟩
def N11 : List Str := ["value", "form", "sign", "kind", "word", "part", "one", "letter"]
-- "word_by"
def f12 : Df := ⟨1, 6, [.iff (.isi (.var 0) .tTup) [.ret (.ife (.cmp .NotEq (.var 0) (.tup [])) (.met .join (.cst (.str [44])) [(.lc (.bif .str [(.var 4)]) (.nm 4) (.var 0) [] [4])]) (.cst (.str [46])))] [], .ret (.bif .str [(.var 0)])]⟩
def N12 : List Str := ["part", "sign", "kind", "word", "one", "letter"]
-- "text_by"
def f13 : Df := ⟨1, 7, [.iff (.cmp .Eq (.sub (.var 0) (.cst (.int (0)))) (.cst (.str [100, 101, 101, 100]))) [.ret (.sub (.var 0) (.cst (.int (1))))] [], .ret (.met .join (.cst (.str [32])) [(.lc (.call 12 [(.var 4)] []) (.nm 4) (.var 0) [] [4])])]⟩
def N13 : List Str := ["parts", "sign", "kind", "word", "part", "one", "letter"]
-- "read_command"
def f14 : Df := ⟨1, 7, [.ret (.ife (.isi (.var 0) .tStr) (.call 9 [(.var 0)] []) (.cst (.non)))]⟩
def N14 : List Str := ["value", "sign", "kind", "word", "part", "one", "letter"]
-- "command_text"
def f15 : Df := ⟨1, 7, [.iff (.not_ (.call 11 [(.var 0)] [])) [.rai 1 [(.var 0)]] [], .ret (.call 13 [(.var 0)] [])]⟩
def N15 : List Str := ["parts", "sign", "kind", "word", "part", "one", "letter"]
-- "_law_pot"
def f16 : Df := ⟨2, 10, [.asg (.nm 2) (.ife (.cmp .Lt (.var 1) (.bif .len [(.var 0)])) (.bif .abs [(.sub (.var 0) (.var 1))]) (.bop .Add (.bop .Mult (.cst (.int (887))) (.var 1)) (.cst (.int (219))))), .asg (.nm 3) (.bop .Add (.bop .Mod (.bif .int [(.bop .Add (.bop .Add (.bop .Mult (.bop .Mod (.bif .int [(.var 2)]) (.cst (.int (2147483549)))) (.cst (.int (40692)))) (.bop .Mult (.cst (.int (4909))) (.var 1))) (.cst (.int (137))))]) (.cst (.int (2147483563)))) (.cst (.int (1)))), .ret (.new (.lst [(.bif .max [(.cst (.int (0))), (.bop .Sub (.var 2) (.bop .Pow (.cst (.int (10))) (.cst (.int (18)))))]), (.var 3)]))]⟩
def N16 : List Str := ["script", "k", "cell", "mixed", "sign", "kind", "word", "part", "one", "letter"]
-- "_law_draw"
def f17 : Df := ⟨2, 9, [.iff (.cmp .Gt (.sub (.var 0) (.cst (.int (0)))) (.cst (.int (0)))) [.asub2 (.var 0) (.cst (.int (0))) 2 (.bif .divmod [(.sub (.var 0) (.cst (.int (0)))), (.var 1)]), .ret (.var 2)] [], .asub (.var 0) (.cst (.int (1))) (.bop .Mod (.bif .int [(.bop .Add (.bop .Mult (.sub (.var 0) (.cst (.int (1)))) (.cst (.int (40692)))) (.cst (.int (4909))))]) (.cst (.int (2147483587)))), .ret (.bop .Mod (.bif .int [(.bop .FloorDiv (.bop .Mod (.bif .int [(.bop .Mult (.sub (.var 0) (.cst (.int (1)))) (.sub (.var 0) (.cst (.int (1)))))]) (.cst (.int (2147483563)))) (.cst (.int (19))))]) (.var 1))]⟩
def N17 : List Str := ["pot", "many", "digit", "sign", "kind", "word", "part", "one", "letter"]
-- "_law_pick"
def f18 : Df := ⟨2, 8, [.ret (.sub (.var 1) (.call 17 [(.var 0), (.bif .len [(.var 1)])] []))]⟩
def N18 : List Str := ["pot", "some", "sign", "kind", "word", "part", "one", "letter"]
-- "_law_heard"
def f19 : Df := ⟨1, 9, [.asg (.nm 1) (.lst [(.cst (.str [108, 101, 116]))]), .try_ [.asg (.nm 1) (.thk)] 1 ((some 2)) [.asg (.nm 1) (.lst [(.cst (.str [112, 97, 114, 116, 115])), (.exf 0), (.exi 0)])], .ret (.var 1)]⟩
def N19 : List Str := ["call", "told", "e", "sign", "kind", "word", "part", "one", "letter"]
-- "_law_name"
def f20 : Df := ⟨1, 7, [.ret (.met .join (.cst (.str [])) [(.lc (.call 18 [(.var 0), (.bif .list [(.cst (.str [97, 98, 120, 121, 122]))])] []) (.nm 6) (.rng (.cst (.int (0))) (.bop .Add (.cst (.int (1))) (.call 17 [(.var 0), (.cst (.int (3)))] []))) [] [6])])]⟩
def N20 : List Str := ["pot", "sign", "kind", "word", "part", "one", "letter"]
-- "_law_closed"
def f21 : Df := ⟨0, 6, [.ret (.met .split (.cst (.str [108, 101, 116, 32, 112, 117, 116, 32, 100, 114, 111, 112, 32, 105, 102, 32, 101, 108, 115, 101, 32, 114, 101, 112, 101, 97, 116, 32, 101, 97, 99, 104, 32, 105, 110, 32, 98, 121, 32, 102, 114, 111, 109, 32, 116, 111, 32, 119, 104, 101, 114, 101, 32, 97, 110, 115, 119, 101, 114, 32, 103, 105, 118, 101, 32, 117, 112, 32, 115, 117, 109, 32, 99, 111, 117, 110, 116, 32, 111, 102, 32, 104, 97, 115, 32, 97, 110, 100, 32, 111, 114, 32, 110, 111, 116, 32, 100, 101, 101, 100, 32, 116, 97, 98, 108, 101, 32, 105, 110, 100, 101, 120])) [(.cst (.str [32]))])]⟩
def N21 : List Str := ["sign", "kind", "word", "part", "one", "letter"]
-- "_law_arguments"
def f22 : Df := ⟨1, 7, [.ret (.bif .tuple [(.lc (.call 18 [(.var 0), (.lst [(.cst (.int (0))), (.cst (.int (1))), (.neg (.cst (.int (1)))), (.cst (.int (7))), (.bop .Pow (.cst (.int (10))) (.cst (.int (12)))), (.bop .Sub (.cst (.int (0))) (.bop .Pow (.cst (.int (10))) (.cst (.int (12))))), (.cst (.int (305)))])] []) (.nm 5) (.rng (.cst (.int (0))) (.call 17 [(.var 0), (.cst (.int (7)))] [])) [] [5])])]⟩
def N22 : List Str := ["pot", "sign", "kind", "word", "part", "one", "letter"]
-- "_law_parts"
def f23 : Df := ⟨1, 7, [.asg (.nm 1) (.call 18 [(.var 0), (.lst [(.cst (.str [111, 112, 101, 110])), (.cst (.str [98, 101, 97, 116])), (.cst (.str [99, 111, 109, 109, 105, 116])), (.cst (.str [108, 101, 97, 118, 101])), (.cst (.str [115, 121, 110, 99])), (.cst (.str [105, 109, 97, 103, 101])), (.cst (.str [99, 117, 116])), (.cst (.str [99, 108, 101, 97, 110])), (.cst (.str [102, 111, 114, 103, 101, 116])), (.cst (.str [99, 114, 97, 115, 104])), (.cst (.str [99, 111, 112, 121])), (.cst (.str [112, 117, 108, 108])), (.cst (.str [97, 115, 107])), (.cst (.str [100, 101, 101, 100]))])] []), .iff (.cmp .In (.var 1) (.tup [(.cst (.str [111, 112, 101, 110])), (.cst (.str [97, 115, 107]))])) [.ret (.tup [(.var 1), (.call 20 [(.var 0)] []), (.call 20 [(.var 0)] []), (.call 22 [(.var 0)] [])])] [], .iff (.cmp .Eq (.var 1) (.cst (.str [98, 101, 97, 116]))) [.ret (.tup [(.var 1), (.call 20 [(.var 0)] []), (.call 18 [(.var 0), (.lst [(.cst (.int (0))), (.cst (.int (3))), (.cst (.int (10))), (.cst (.int (999999999)))])] [])])] [], .iff (.cmp .In (.var 1) (.tup [(.cst (.str [99, 111, 109, 109, 105, 116])), (.cst (.str [108, 101, 97, 118, 101])), (.cst (.str [99, 111, 112, 121])), (.cst (.str [112, 117, 108, 108]))])) [.ret (.tup [(.var 1), (.call 20 [(.var 0)] [])])] [], .iff (.cmp .Eq (.var 1) (.cst (.str [99, 114, 97, 115, 104]))) [.ret (.bop .Add (.tup [(.var 1)]) (.bif .tuple [(.lc (.call 17 [(.var 0), (.cst (.int (200)))] []) (.nm 5) (.rng (.cst (.int (0))) (.ife (.cmp .Eq (.call 17 [(.var 0), (.cst (.int (2)))] []) (.cst (.int (0)))) (.cst (.int (2))) (.cst (.int (4))))) [] [5])]))] [], .ret (.ife (.cmp .Eq (.var 1) (.cst (.str [100, 101, 101, 100]))) (.tup [(.var 1), (.bop .Add (.bop .Add (.cst (.str [100, 101, 101, 100, 32])) (.call 20 [(.var 0)] [])) (.cst (.str [40, 32, 123, 32, 49, 32, 125])))]) (.tup [(.var 1)]))]⟩
def N23 : List Str := ["pot", "word", "sign", "kind", "part", "one", "letter"]
-- "_law_text"
def f24 : Df := ⟨1, 9, [.iff (.cmp .Eq (.sub (.var 0) (.cst (.int (0)))) (.cst (.str [100, 101, 101, 100]))) [.ret (.sub (.var 0) (.cst (.int (1))))] [], .asg (.nm 1) (.new (.lst [(.sub (.var 0) (.cst (.int (0))))])), .for_ (.nm 2) (.slc (.var 0) (.cst (.int (1))) (.cst (.non))) [.asg (.nm 3) (.ife (.isi (.var 2) .tTup) (.met .join (.cst (.str [44])) [(.lc (.bif .str [(.var 7)]) (.nm 7) (.var 2) [] [7])]) (.bif .str [(.var 2)])), .expr (.met .append (.var 1) [(.ife (.cmp .Eq (.var 3) (.cst (.str []))) (.cst (.str [46])) (.var 3))])], .ret (.met .join (.cst (.str [32])) [(.var 1)])]⟩
def N24 : List Str := ["parts", "found", "part", "told", "sign", "kind", "word", "one", "letter"]
-- "_law_number"
def f25 : Df := ⟨3, 10, [.asg (.nm 3) (.ife (.and_ (.var 2) (.cmp .Eq (.slc (.var 0) (.cst (.non)) (.cst (.int (1)))) (.cst (.str [45])))) (.slc (.var 0) (.cst (.int (1))) (.cst (.non))) (.var 0)), .iff (.or_ (.cmp .Eq (.var 3) (.cst (.str []))) (.or_ (.not_ (.bif .all [(.lc (.cmp .In (.var 5) (.cst (.str [48, 49, 50, 51, 52, 53, 54, 55, 56, 57]))) (.nm 5) (.var 3) [] [5])])) (.or_ (.cmp .NotEq (.var 3) (.bif .str [(.bif .int [(.var 3)])])) (.cmp .Eq (.var 0) (.cst (.str [45, 48])))))) [.ret (.cst (.non))] [], .asg (.nm 4) (.bif .int [(.var 0)]), .ret (.ife (.cmp2 .LtE .LtE (.bop .Sub (.cst (.int (0))) (.var 1)) (.var 4) (.var 1)) (.var 4) (.cst (.non)))]⟩
def N25 : List Str := ["word", "most", "below", "plain", "number", "sign", "kind", "part", "one", "letter"]
-- "_law_read"
def f26 : Df := ⟨1, 12, [.iff (.cmp .Eq (.slc (.var 0) (.cst (.non)) (.cst (.int (5)))) (.cst (.str [100, 101, 101, 100, 32]))) [.ret (.tup [(.cst (.str [100, 101, 101, 100])), (.var 0)])] [], .par 1 2 (.met .split (.var 0) [(.cst (.str [32]))]) (.dic [.str [111, 112, 101, 110], .str [97, 115, 107], .str [98, 101, 97, 116], .str [99, 111, 109, 109, 105, 116], .str [108, 101, 97, 118, 101], .str [99, 111, 112, 121], .str [112, 117, 108, 108]] [.str [110, 110, 97], .str [110, 110, 97], .str [110, 99], .str [110], .str [110], .str [110], .str [110]]), .iff (.cmp .In (.sub (.var 1) (.cst (.int (0)))) (.tup [(.cst (.str [115, 121, 110, 99])), (.cst (.str [105, 109, 97, 103, 101])), (.cst (.str [99, 117, 116])), (.cst (.str [99, 108, 101, 97, 110])), (.cst (.str [102, 111, 114, 103, 101, 116]))])) [.ret (.ife (.cmp .Eq (.bif .len [(.var 1)]) (.cst (.int (1)))) (.tup [(.var 0)]) (.cst (.non)))] [], .asg (.nm 3) (.met .get (.var 2) [(.sub (.var 1) (.cst (.int (0)))), (.ife (.and_ (.cmp .Eq (.sub (.var 1) (.cst (.int (0)))) (.cst (.str [99, 114, 97, 115, 104]))) (.cmp .In (.bif .len [(.var 1)]) (.tup [(.cst (.int (3))), (.cst (.int (5)))]))) (.bop .Mult (.cst (.str [99])) (.bop .Sub (.bif .len [(.var 1)]) (.cst (.int (1))))) (.cst (.non)))]), .iff (.or_ (.cmp .Is (.var 3) (.cst (.non))) (.cmp .NotEq (.bif .len [(.var 1)]) (.bop .Add (.bif .len [(.var 3)]) (.cst (.int (1)))))) [.ret (.cst (.non))] [], .asg (.nm 4) (.new (.lst [(.sub (.var 1) (.cst (.int (0))))])), .for_ (.tup [.nm 5, .nm 6]) (.zip (.var 3) (.slc (.var 1) (.cst (.int (1))) (.cst (.non)))) [.asg (.nm 7) (.ife (.cmp .Eq (.var 5) (.cst (.str [110]))) (.var 6) (.call 25 [(.var 6), (.cst (.int (999999999))), (.cst (.bl false))] [])), .iff (.and_ (.cmp .Eq (.var 5) (.cst (.str [110]))) (.or_ (.not_ (.cmp2 .LtE .LtE (.cst (.int (1))) (.bif .len [(.var 6)]) (.cst (.int (8))))) (.or_ (.not_ (.bif .all [(.lc (.cmp2 .LtE .LtE (.cst (.str [97])) (.var 9) (.cst (.str [122]))) (.nm 9) (.var 6) [] [9])])) (.cmp .In (.var 6) (.call 21 [] []))))) [.ret (.cst (.non))] [], .iff (.cmp .Eq (.var 5) (.cst (.str [97]))) [.asg (.nm 8) (.ife (.cmp .NotEq (.var 6) (.cst (.str [46]))) (.lc (.call 25 [(.var 10), (.bop .Pow (.cst (.int (10))) (.cst (.int (12)))), (.cst (.bl true))] []) (.nm 10) (.met .split (.var 6) [(.cst (.str [44]))]) [] [10]) (.lst [])), .asg (.nm 7) (.ife (.and_ (.cmp .NotIn (.cst (.non)) (.var 8)) (.cmp .Lt (.bif .len [(.var 8)]) (.cst (.int (7))))) (.bif .tuple [(.var 8)]) (.cst (.non)))] [], .iff (.cmp .Is (.var 7) (.cst (.non))) [.ret (.cst (.non))] [], .expr (.met .append (.var 4) [(.var 7)])], .ret (.bif .tuple [(.var 4)])]⟩
def N26 : List Str := ["text", "words", "forms", "form", "found", "kind", "word", "part", "some", "sign", "one", "letter"]
-- "law"
def f27 : Df := ⟨1, 17, [.par 1 2 (.call 16 [(.var 0), (.cst (.int (0)))] []) (.call 16 [(.var 0), (.cst (.int (1)))] []), .for_ (.nm 3) (.rng (.cst (.int (0))) (.cst (.int (8)))) [.asg (.nm 4) (.call 23 [(.var 1)] []), .asg (.nm 5) (.call 24 [(.var 4)] []), .asg (.nm 6) (.call 26 [(.var 5)] []), .iff (.or_ (.cmp .NotEq (.bif .repr [(.lst [(.call 14 [(.var 5)] []), (.call 14 [(.var 5)] [0])])]) (.bif .repr [(.lst [(.var 6), (.var 6)])])) (.and_ (.cmp .IsNot (.var 6) (.cst (.non))) (.cmp .NotEq (.bif .repr [(.lst [(.call 15 [(.var 4)] []), (.call 15 [(.var 4)] [0])])]) (.bif .repr [(.lst [(.var 5), (.var 5)])])))) [.ret (.cst (.bl false))] [], .par 7 8 (.call 17 [(.var 2), (.bif .len [(.var 5)])] []) (.call 18 [(.var 2), (.bif .list [(.cst (.str [32, 44, 46, 45, 48, 49, 97, 120, 79]))])] []), .for_ (.nm 9) (.lst [(.bop .Add (.bop .Add (.slc (.var 5) (.cst (.non)) (.var 7)) (.var 8)) (.slc (.var 5) (.bop .Add (.var 7) (.cst (.int (1)))) (.cst (.non)))), (.bop .Add (.slc (.var 5) (.cst (.non)) (.var 7)) (.slc (.var 5) (.bop .Add (.var 7) (.cst (.int (1)))) (.cst (.non)))), (.bop .Add (.bop .Add (.slc (.var 5) (.cst (.non)) (.var 7)) (.var 8)) (.slc (.var 5) (.var 7) (.cst (.non)))), (.bop .Add (.var 5) (.cst (.str [32]))), (.bop .Add (.cst (.str [32])) (.var 5)), (.cst (.str []))]) [.iff (.cmp .NotEq (.bif .repr [(.call 14 [(.var 9)] [])]) (.bif .repr [(.call 26 [(.var 9)] [])])) [.ret (.cst (.bl false))] []], .for_ (.nm 11) (.lst [(.cst (.non)), (.cst (.int (0))), (.tup []), (.lst [(.var 5)]), (.met .split (.var 5) [(.cst (.str [32]))])]) [.iff (.cmp .IsNot (.call 14 [(.var 11)] []) (.cst (.non))) [.ret (.cst (.bl false))] []], .asg (.nm 10) (.lst [(.cst (.non)), (.cst (.int (0))), (.tup []), (.bif .list [(.var 4)]), (.bop .Add (.var 4) (.tup [(.cst (.int (0)))])), (.tup [(.cst (.str [117, 110, 100, 111]))]), (.bop .Add (.slc (.var 4) (.cst (.non)) (.neg (.cst (.int (1))))) (.tup [(.cst (.non))])), (.bop .Add (.slc (.var 4) (.cst (.non)) (.neg (.cst (.int (1))))) (.tup [(.cst (.bl true))])), (.tup [(.cst (.str [98, 101, 97, 116])), (.cst (.str [120])), (.neg (.cst (.int (1))))]), (.tup [(.cst (.str [111, 112, 101, 110])), (.cst (.str [120])), (.cst (.str [108, 101, 116])), (.tup [])]), (.tup [(.cst (.str [99, 114, 97, 115, 104])), (.cst (.int (1)))])]), .for_ (.nm 11) (.var 10) [.iff (.cmp .NotEq (.bif .repr [(.lam 19 (.call 15 [(.var 11)] []))]) (.bif .repr [(.lst [(.cst (.str [112, 97, 114, 116, 115])), (.var 11), (.cst (.bl true))])])) [.ret (.cst (.bl false))] []]], .ret (.cst (.bl true))]⟩
def N27 : List Str := ["script", "pot", "late", "turn", "parts", "text", "due", "at", "sign", "other", "bent", "value", "kind", "word", "part", "one", "letter"]

def fL : List Df := [f0, f1, f2, f3, f4, f5, f6, f7, f8, f9, f10, f11, f12, f13, f14, f15, f16, f17, f18, f19, f20, f21, f22, f23, f24, f25, f26, f27]
/-- 1: the class of refused parts; others: its base -/
def G : Prg := ⟨fun i => fL[i]?, fun a b => !decide (b = 1) || decide (a = 1)⟩
def sx (s : String) : D := .str (Str.ofString s).cps.toList
def fi0 : FI := ⟨"is_integer", ["value"], false, false, []⟩
def fi1 : FI := ⟨"is_between", ["value", "low", "high"], false, false, []⟩
def fi2 : FI := ⟨"is_count", ["value"], false, false, []⟩
def fi3 : FI := ⟨"is_name", ["value"], false, false, []⟩
def fi4 : FI := ⟨"is_number", ["value"], false, false, []⟩
def fi5 : FI := ⟨"count_of", ["word"], false, false, []⟩
def fi6 : FI := ⟨"number_of", ["word"], false, false, []⟩
def fi7 : FI := ⟨"arguments_of", ["word"], false, false, []⟩
def fi8 : FI := ⟨"part_of", ["kind", "word"], false, false, []⟩
def fi9 : FI := ⟨"parts_by", ["text"], false, false, []⟩
def fi10 : FI := ⟨"word_part_is_right", ["kind", "value"], false, false, []⟩
def fi11 : FI := ⟨"parts_are_right", ["value"], false, false, []⟩
def fi12 : FI := ⟨"word_by", ["part"], false, false, []⟩
def fi13 : FI := ⟨"text_by", ["parts"], false, false, []⟩
def fi14 : FI := ⟨"read_command", ["value"], false, false, [(0, ["value"], [0])]⟩
def fi15 : FI := ⟨"command_text", ["parts"], false, false, [(0, ["parts"], [0])]⟩
def fi16 : FI := ⟨"_law_pot", ["script", "k"], false, false, []⟩
def fi17 : FI := ⟨"_law_draw", ["pot", "many"], false, false, []⟩
def fi18 : FI := ⟨"_law_pick", ["pot", "some"], false, false, []⟩
def fi19 : FI := ⟨"_law_heard", ["call"], false, true, []⟩
def fi20 : FI := ⟨"_law_name", ["pot"], false, false, []⟩
def fi21 : FI := ⟨"_law_closed", [], false, false, []⟩
def fi22 : FI := ⟨"_law_arguments", ["pot"], false, false, []⟩
def fi23 : FI := ⟨"_law_parts", ["pot"], false, false, []⟩
def fi24 : FI := ⟨"_law_text", ["parts"], false, false, []⟩
def fi25 : FI := ⟨"_law_number", ["word", "most", "below"], false, false, []⟩
def fi26 : FI := ⟨"_law_read", ["text"], false, false, []⟩
def fi27 : FI := ⟨"law", ["script"], true, false, []⟩
def cstL : List (Str × D) := [("CLOSED", .tup (["let", "put", "drop", "if", "else", "repeat", "each", "in", "by", "from", "to", "where", "answer", "give", "up", "sum", "count", "of", "has", "and", "or", "not", "deed", "table", "index"].map sx)),
  ("LETTERS", .str ((List.range 26).map (97 + ·))), ("MOST_LETTERS", .int 8), ("GREATEST", .int 1000000000000), ("DIGITS", .str ((List.range 10).map (48 + ·))), ("MOST_DIGITS", .int 9), ("LIMIT", .int 1000000000), ("MOST_ARGUMENTS", .int 6),
  ("FORMS", .wdi (["open", "beat", "commit", "leave", "sync", "image", "cut", "clean", "forget", "crash", "copy", "pull", "ask"].map sx) ([["nna"], ["nc"], ["n"], ["n"], [""], [""], [""], [""], [""], ["cc", "cccc"], ["n"], ["n"], ["nna"]].map fun l => .tup (l.map sx))), ("DEED", sx "deed ")]
def gi : Gi := { cst := cstL, fns := [fi0, fi1, fi2, fi3, fi4, fi5, fi6, fi7, fi8, fi9, fi10, fi11, fi12, fi13, fi14, fi15, fi16, fi17, fi18, fi19, fi20, fi21, fi22, fi23, fi24, fi25, fi26, fi27], cls := ["StoreError", "InvalidCommand"], free := ["len", "abs", "max", "min", "divmod", "int", "str", "repr", "all", "any", "sum", "tuple", "list", "isinstance", "range", "zip", "enumerate", "bool"], fld := "value", news := [(95, 11), (131, 12), (151, 12)] }
end Ev.K95
set_option Elab.async false
set_option linter.all false
set_option autoImplicit false
set_option maxRecDepth 100000
set_option maxHeartbeats 4000000
/-! K95p: the plain law of k95: words. -/
namespace Ev.K95
open PySem PySem.Spec PyProof.Rows L2 TL Ev Ev.Ru NumText
def CLD : List D := [.str [108, 101, 116], .str [112, 117, 116], .str [100, 114, 111, 112], .str [105, 102], .str [101, 108, 115, 101], .str [114, 101, 112, 101, 97, 116], .str [101, 97, 99, 104], .str [105, 110], .str [98, 121], .str [102, 114, 111, 109], .str [116, 111], .str [119, 104, 101, 114, 101], .str [97, 110, 115, 119, 101, 114], .str [103, 105, 118, 101], .str [117, 112], .str [115, 117, 109], .str [99, 111, 117, 110, 116], .str [111, 102], .str [104, 97, 115], .str [97, 110, 100], .str [111, 114], .str [110, 111, 116], .str [100, 101, 101, 100], .str [116, 97, 98, 108, 101], .str [105, 110, 100, 101, 120]]
def DIG : List Nat := [48, 49, 50, 51, 52, 53, 54, 55, 56, 57]
def LTR : List Nat := [97, 98, 99, 100, 101, 102, 103, 104, 105, 106, 107, 108, 109, 110, 111, 112, 113, 114, 115, 116, 117, 118, 119, 120, 121, 122]
theorem is_integer_int (d : Nat) (i : Int) (S : Sto) : callD G (d + 1) 0 [.int i] S = .ok (.bl true) S := by rfl
theorem is_between_int (d : Nat) (i lo hi : Int) (S : Sto) : callD G (d + 2) 1 [.int i, .int lo, .int hi] S = .ok (.bl (decide (lo ≤ i) && decide (i ≤ hi))) S := by
  by_cases h1 : lo ≤ i
  · rw [decide_eq_true h1, Bool.true_and]
    exact call_of (df := f1) rfl rfl (rss_ret (rs_ret (re_andT (re_call rfl rfl (is_integer_int d i S)) rfl (re_cmp2T rfl rfl (congrArg (fun q => some (D.bl q)) (decide_eq_true h1)) rfl rfl)))) rfl
  · rw [decide_eq_false h1, Bool.false_and]
    exact call_of (df := f1) rfl rfl (rss_ret (rs_ret (re_andT (re_call rfl rfl (is_integer_int d i S)) rfl (re_cmp2F rfl rfl (congrArg (fun q => some (D.bl q)) (decide_eq_false h1)))))) rfl
theorem is_number_int (d : Nat) (i : Int) (S : Sto) : callD G (d + 3) 4 [.int i] S = .ok (.bl (decide (-1000000000000 ≤ i) && decide (i ≤ 1000000000000))) S :=
  call_of (df := f4) rfl rfl (rss_ret (rs_ret (re_call rfl rfl (is_between_int d i _ _ S)))) rfl
theorem is_count_int (d : Nat) (i : Int) (S : Sto) : callD G (d + 2) 2 [.int i] S = .ok (.bl (decide (0 ≤ i))) S :=
  call_of (df := f2) rfl rfl (rss_ret (rs_ret (re_andT (re_call rfl rfl (is_integer_int d i S)) rfl (re_cmp rfl rfl rfl)))) rfl
/-! names -/
def len18 (w : List Nat) : Bool := decide ((1 : Int) ≤ w.length) && decide ((w.length : Int) ≤ 8)
def closedS (w : List Nat) : Bool := CLD.any fun y => feqD y (.str w)
def nameS (w : List Nat) : Bool := !(!len18 w || closedS w) && w.all fun c => LTR.contains c
theorem is_name_str (d : Nat) (w : List Nat) (S : Sto) (hw : w.length ≤ 1000) : callD G (d + 1) 3 [.str w] S = .ok (.bl (nameS w)) S := by
  refine (call_w (df := f3) rfl rfl (w_guard (q := !len18 w || closedS w) (S1 := S) (S2 := S) (x := .bl false) (r := .ok (.bl (w.all fun c => LTR.contains c)) S) ?_ (fun _ => rfl) (fun _ => ?_))).trans ?_
  · exact rt_orF rfl (rt_or (rt_not (rt_bl (fun _ _ => rfl) (re_cmp2 rfl rfl rfl rfl rfl))) (fun _ => rt_bl (fun _ _ => rfl) (re_cmp rfl rfl rfl)))
  · exact w_ret (re_bif (res_cons (re_chars (m := 2) (w := w) (g := fun c => .bl (LTR.contains c)) rfl rfl (Nat.le_of_ble_eq_true rfl) (fun c _ k => re_cmp rfl rfl rfl) (by omega) (by unfold LINE; omega)) res_nil) (all_map w))
  · unfold nameS
    cases h : (!len18 w || closedS w) <;> rfl
/-! counts -/
def digS (w : List Nat) : Bool := w.any fun c => !DIG.contains c
def countS (w : List Nat) : D := if (!(decide ((1 : Int) ≤ w.length) && decide ((w.length : Int) ≤ 9)) || digS w) = true then .non else if (decide (w = [48]) || !decide (w.head? = some 48)) = true then .int (digitsVal w) else .non
theorem dig_ds {w : List Nat} : digS w = !isDs w := by
  unfold digS isDs
  rw [List.not_all_eq_any_not]
  congr 1
  funext c
  by_cases h : c < 58
  · have : ∀ c, c < 58 → (!DIG.contains c) = !(decide (48 ≤ c) && decide (c ≤ 57)) := by decide
    exact this c h
  · have h1 : DIG.contains c = false := by
      cases e : DIG.contains c with
      | false => rfl
      | true =>
        have := List.contains_iff_mem.mp e
        unfold DIG at this
        simp at this
        omega
    rw [h1, decide_eq_false (by omega : ¬ c ≤ 57), Bool.and_false]
theorem sub0 (c : Nat) (r : List Nat) : subD (.str (c :: r)) (.int 0) = some (.str [c]) := by
  unfold subD ixD
  simp
theorem int_str {w : List Nat} (h : digS w = false) (hne : w ≠ []) (hl : w.length ≤ 640) : bifD .int [.str w] = some (.int (digitsVal w)) := by
  rw [dig_ds] at h
  have h : isDs w = true := by simpa using h
  have h1 : digitsD w = some (digitsVal w) := by
    unfold digitsD
    have : (w.isEmpty || !isDs w) = false := by
      cases w with
      | nil => exact absurd rfl hne
      | cons c r => rw [h]; rfl
    exact if_neg (by rw [show (w.isEmpty || !(w.all fun c => decide (48 ≤ c) && decide (c ≤ 57))) = false from this]; exact Bool.false_ne_true)
  show (if decide (w.length ≤ 640) = true then (digitsI w).map D.int else none) = _
  rw [decide_eq_true hl, if_pos rfl]
  unfold digitsI
  rw [h1]
  rfl
theorem count_of_str (d : Nat) (w : List Nat) (S : Sto) (hw : w.length ≤ 640) : callD G (d + 1) 5 [.str w] S = .ok (countS w) S := by
  cases w with
  | nil => rfl
  | cons c r =>
    refine (call_w (df := f5) rfl rfl (w_guard (q := !(decide ((1 : Int) ≤ (c :: r).length) && decide (((c :: r).length : Int) ≤ 9)) || digS (c :: r)) (S1 := S) (S2 := S) (x := .non) (r := .ok (if (decide (c :: r = [48]) || !decide ((c :: r).head? = some 48)) = true then .int (digitsVal (c :: r)) else .non) S) ?_ (fun _ => rfl) (fun hq => ?_))).trans ?_
    · exact rt_or (rt_not (rt_bl (fun _ _ => rfl) (re_cmp2 rfl rfl rfl rfl rfl))) (fun _ => rt_bl (fun _ _ => rfl) (re_bif (res_cons (re_chars (m := 2) (w := c :: r) (g := fun c => .bl (!DIG.contains c)) rfl rfl (Nat.le_of_ble_eq_true rfl) (fun c _ k => re_cmp rfl rfl rfl) (by omega) (by unfold LINE; omega)) res_nil) (any_map _)))
    · refine w_ret (re_ite (q := decide (c :: r = [48]) || !decide ((c :: r).head? = some 48)) (rt_or (rt_bl (fun _ _ => rfl) (re_cmp rfl rfl rfl)) (fun _ => rt_bl (fun _ _ => rfl) (re_cmp (re_sub rfl rfl (sub0 c r)) rfl ?_))) (fun _ => re_bif rfl (int_str (Bool.or_eq_false_iff.mp hq).2 (by simp) hw)) (fun _ => rfl))
      show some (D.bl (!decide ([c] = [48]))) = _
      simp
    · unfold countS
      by_cases h : (!(decide ((1 : Int) ≤ (c :: r).length) && decide (((c :: r).length : Int) ≤ 9)) || digS (c :: r)) = true
      · rw [if_pos h, if_pos h]
      · rw [if_neg h, if_neg h]
end Ev.K95
set_option Elab.async false
set_option linter.all false
set_option autoImplicit false
set_option maxRecDepth 100000
set_option maxHeartbeats 4000000
/-! K95q: the plain law of k95: numbers, arguments, parts of words. -/
namespace Ev.K95
open PySem PySem.Spec PyProof.Rows L2 TL Ev Ev.Ru NumText
def minusS (w : List Nat) : Bool := decide (cutD w none (some 1) = [45])
def plainS (w : List Nat) : List Nat := if minusS w = true then cutD w (some 1) none else w
def badS (p : List Nat) : Bool := decide (p = []) || (digS p || (decide ((1 : Int) < p.length) && decide (p.head? = some 48)))
def intS (w : List Nat) : Int := if minusS w = true then 0 - (digitsVal (plainS w) : Int) else (digitsVal (plainS w) : Int)
def numS (w : List Nat) : D := if badS (plainS w) = true then .non else if (decide (w = [45, 48]) || !(decide (-1000000000000 ≤ intS w) && decide (intS w ≤ 1000000000000))) = true then .non else .int (intS w)
theorem cut1 (w : List Nat) : cutD w (some 1) none = w.drop 1 := by
  unfold cutD HT.sIx
  cases w with
  | nil => rfl
  | cons c r => simp
theorem cut01 (w : List Nat) : cutD w none (some 1) = w.take 1 := by
  unfold cutD HT.sIx
  cases w with
  | nil => rfl
  | cons c r => simp
theorem plain_len (w : List Nat) : (plainS w).length ≤ w.length := by
  unfold plainS
  split
  · rw [cut1, List.length_drop]
    omega
  · exact Nat.le_refl _
theorem number_of_str (d : Nat) (w : List Nat) (S : Sto) (hw : w.length ≤ 640) : callD G (d + 4) 6 [.str w] S = .ok (numS w) S := by
  have hp := plain_len w
  refine (call_w (df := f6) rfl rfl (w_asg (S1 := S) (d := .str (plainS w)) (re_ite2 (q := minusS w) (rt_bl (fun _ _ => rfl) (re_cmp (re_slc rfl rfl rfl rfl rfl rfl) rfl rfl)) (fun hq => (re_slc rfl rfl rfl rfl rfl rfl).trans ?_) (fun hq => (re_var rfl).trans ?_)) rfl
    (w_guard (q := badS (plainS w)) (S1 := S) (S2 := S) (x := .non) (r := .ok (if (decide (w = [45, 48]) || !(decide (-1000000000000 ≤ intS w) && decide (intS w ≤ 1000000000000))) = true then .non else .int (intS w)) S) ?_ (fun _ => rfl) (fun hq => ?_)))).trans ?_
  · unfold plainS
    rw [if_pos hq]
  · unfold plainS
    rw [hq]
    rfl
  · refine rt_or (rt_bl (fun _ _ => rfl) (re_cmp rfl rfl rfl)) (fun h0 => rt_or (rt_bl (fun _ _ => rfl) (re_bif (res_cons (re_chars (m := 2) (w := plainS w) (g := fun c => .bl (!DIG.contains c)) rfl rfl (Nat.le_of_ble_eq_true rfl) (fun c _ k => re_cmp rfl rfl rfl) (by omega) (by unfold LINE; omega)) res_nil) (any_map _))) (fun _ => rt_and (rt_bl (fun _ _ => rfl) (re_cmp rfl rfl rfl)) (fun h1 => ?_)))
    generalize plainS w = p at h1 h0 hp
    cases p with
    | nil => cases h0
    | cons c r =>
      refine rt_bl (fun _ _ => rfl) (re_cmp (re_sub rfl rfl (sub0 c r)) rfl ?_)
      show some (D.bl (decide ([c] = [48]))) = _
      simp
  · have h0 : plainS w ≠ [] := fun z => by
      unfold badS at hq
      rw [z] at hq
      cases hq
    have h1 : digS (plainS w) = false := by
      unfold badS at hq
      exact (Bool.or_eq_false_iff.mp (Bool.or_eq_false_iff.mp hq).2).1
    have hi := int_str h1 h0 (Nat.le_trans hp hw)
    refine w_asg (S1 := S) (d := .int (intS w)) (re_ite2 (q := minusS w) (rt_bl (fun _ _ => rfl) (re_cmp (re_slc rfl rfl rfl rfl rfl rfl) rfl rfl)) (fun hm => (re_bop rfl (re_bif rfl hi) rfl).trans ?_) (fun hm => (re_bif rfl hi).trans ?_)) rfl
      (w_ret (re_ite (rt_or (rt_bl (fun _ _ => rfl) (re_cmp rfl rfl rfl)) (fun _ => rt_not (rt_bl (fun _ _ => rfl) (re_call rfl rfl (is_number_int d _ S))))) (fun _ => rfl) (fun _ => rfl)))
    · unfold intS
      rw [if_pos hm]
    · unfold intS
      rw [hm]
      rfl
  · unfold numS
    split <;> rfl
/-! the law's own numbers -/
theorem val_small {w : List Nat} (h : digS w = false) (hl : w.length ≤ 577) : (digitsVal w).log2 < 1920 := by
  rw [dig_ds] at h
  have h : isDs w = true := by simpa using h
  have h1 := val_lt (isDs_all h)
  by_cases h0 : digitsVal w = 0
  · rw [h0]
    decide
  · rw [Nat.log2_lt h0]
    refine Nat.lt_of_lt_of_le h1 (Nat.le_trans (Nat.pow_le_pow_right (by decide) hl) ?_)
    decide +kernel
theorem str_int {n : Nat} (h : n.log2 < 1920) : bifD .str [.int (n : Int)] = some (.str (numL n)) := by
  show (if decide ((Int.natAbs (n : Int)).log2 < 1920) = true then _ else _) = _
  rw [Int.natAbs_natCast, if_pos (decide_eq_true h)]
  rfl
theorem all_dig (w : List Nat) : (w.all fun c => DIG.contains c) = !digS w := by
  unfold digS
  rw [List.not_any_eq_all_not]
  congr 1
  funext c
  simp
def canS (p : List Nat) : Bool := decide (p = [48]) || !decide (p.head? = some 48)
def lbadS (p w : List Nat) : Bool := decide (p = []) || (!(p.all fun c => DIG.contains c) || (!canS p || decide (w = [45, 48])))
theorem law_guard {P : Pg} {n : Nat} {S : Sto} {p w : List Nat} {m b e4 e5 e6 e7 e8 e9 : Option D} (hp : p.length ≤ 577) :
    evT P (n + 1000) (.or_ (.cmp .Eq (.var 3) (.cst (.str []))) (.or_ (.not_ (.bif .all [(.lc (.cmp .In (.var 5) (.cst (.str [48, 49, 50, 51, 52, 53, 54, 55, 56, 57]))) (.nm 5) (.var 3) [] [5])])) (.or_ (.cmp .NotEq (.var 3) (.bif .str [(.bif .int [(.var 3)])])) (.cmp .Eq (.var 0) (.cst (.str [45, 48])))))) [some (.str w), m, b, some (.str p), e4, e5, e6, e7, e8, e9] S = .ok (lbadS p w) S := by
  refine rt_or (rt_bl (fun _ _ => rfl) (re_cmp rfl rfl rfl)) (fun h0 => rt_or (rt_not (rt_bl (fun _ _ => rfl) (re_bif (res_cons (re_chars (m := 2) (w := p) (g := fun c => .bl (DIG.contains c)) rfl rfl (Nat.le_of_ble_eq_true rfl) (fun c _ k => re_cmp rfl rfl rfl) (by omega) (by unfold LINE; omega)) res_nil) (all_map _)))) (fun h1 => rt_or (rt_bl (fun _ _ => rfl) ?_) (fun _ => rt_bl (fun _ _ => rfl) (re_cmp rfl rfl rfl))))
  have h2 : digS p = false := by
    rw [all_dig] at h1
    simpa using h1
  have h3 : p ≠ [] := of_decide_eq_false h0
  refine re_cmp rfl (re_bif (res_cons (re_bif rfl (int_str h2 h3 (by omega))) res_nil) (str_int (val_small h2 hp))) ?_
  show some (D.bl (!decide (p = numL (digitsVal p)))) = some (.bl (!canS p))
  have h4 : isDs p = true := by
    rw [dig_ds] at h2
    simpa using h2
  have := numL_canon h4 h3
  unfold canS
  rw [← this]
  by_cases e : numL (digitsVal p) = p
  · rw [decide_eq_true e, decide_eq_true e.symm]
  · rw [decide_eq_false e, decide_eq_false (fun z => e z.symm)]
theorem lnum_false (d : Nat) (w : List Nat) (S : Sto) (hw : w.length ≤ 577) : callD G (d + 1) 25 [.str w, .int 999999999, .bl false] S = .ok (countS w) S := by
  refine (call_w (df := f25) rfl rfl (w_asg (S1 := S) (d := .str w) (re_iteF (rt_andF rfl) rfl) rfl
    (w_guard (q := lbadS w w) (S1 := S) (S2 := S) (x := .non) (r := .ok (if (decide ((0 : Int) - 999999999 ≤ digitsVal w) && decide ((digitsVal w : Int) ≤ 999999999)) = true then .int (digitsVal w) else .non) S) (law_guard hw) (fun _ => rfl) (fun hq => ?_)))).trans ?_
  · unfold lbadS at hq
    rw [all_dig] at hq
    obtain ⟨h0, hq⟩ := Bool.or_eq_false_iff.mp hq
    obtain ⟨h1, hq⟩ := Bool.or_eq_false_iff.mp hq
    exact w_asg (S1 := S) (d := .int (digitsVal w)) (re_bif rfl (int_str (by simpa using h1) (of_decide_eq_false h0) (by omega))) rfl (w_ret (re_ite (rt_bl (fun _ _ => rfl) (re_cmp2 rfl rfl rfl rfl rfl)) (fun _ => rfl) (fun _ => rfl)))
  · unfold countS
    by_cases h0 : w = []
    · subst h0
      rfl
    by_cases h1 : digS w = true
    · have : lbadS w w = true := by
        unfold lbadS
        rw [all_dig, h1]
        simp
      rw [if_pos this, if_pos (by rw [h1]; simp)]
    have h1 : digS w = false := by simpa using h1
    have h2 : isDs w = true := by
      rw [dig_ds] at h1
      simpa using h1
    have h3 : ¬ w = [45, 48] := fun z => by
      subst z
      cases h2
    have e1 : lbadS w w = !canS w := by
      unfold lbadS
      rw [all_dig, h1, decide_eq_false h0, decide_eq_false h3]
      simp
    have hl : 1 ≤ w.length := by
      cases w with
      | nil => exact absurd rfl h0
      | cons c r => simp
    rw [e1, h1, Bool.or_false, decide_eq_true (by omega : (1 : Int) ≤ w.length), Bool.true_and]
    show _ = (R.ok (if (!decide ((w.length : Int) ≤ 9)) = true then D.non else if canS w = true then .int (digitsVal w) else .non) S : R D)
    cases hc : canS w with
    | false => simp
    | true =>
      have hcan : canon w = true := by
        unfold canon
        rw [h2]
        unfold canS at hc
        rw [hc]
        cases w with
        | nil => exact absurd rfl h0
        | cons c r => rfl
      have := canon_nine hcan 9 (by decide)
      by_cases h9 : w.length ≤ 9
      · rw [decide_eq_true h9] at this
        have h10 := of_decide_eq_true this.symm
        have e3 : (w.length : Int) ≤ 9 := by omega
        have e4 : ((digitsVal w : Nat) : Int) ≤ 999999999 := by omega
        have e5 : (0 : Int) - 999999999 ≤ (digitsVal w : Nat) := by omega
        simp [e3, e4, e5]
      · rw [decide_eq_false h9] at this
        have h10 := of_decide_eq_false this.symm
        have e3 : ¬ (w.length : Int) ≤ 9 := by omega
        have e4 : ¬ ((digitsVal w : Nat) : Int) ≤ 999999999 := by omega
        simp [e3, e4]
theorem lnum_true (d : Nat) (w : List Nat) (S : Sto) (hw : w.length ≤ 577) : callD G (d + 1) 25 [.str w, .int 1000000000000, .bl true] S = .ok (numS w) S := by
  have hp := plain_len w
  refine (call_w (df := f25) rfl rfl (w_asg (S1 := S) (d := .str (plainS w)) (re_ite2 (q := minusS w) (rt_andT rfl (rt_bl (fun _ _ => rfl) (re_cmp (re_slc rfl rfl rfl rfl rfl rfl) rfl rfl))) (fun hq => (re_slc rfl rfl rfl rfl rfl rfl).trans ?_) (fun hq => (re_var rfl).trans ?_)) rfl
    (w_guard (q := lbadS (plainS w) w) (S1 := S) (S2 := S) (x := .non) (r := .ok (if (decide ((0 : Int) - 1000000000000 ≤ intS w) && decide (intS w ≤ 1000000000000)) = true then .int (intS w) else .non) S) (law_guard (by omega)) (fun _ => rfl) (fun hq => ?_)))).trans ?_
  · unfold plainS
    rw [if_pos hq]
  · unfold plainS
    rw [hq]
    rfl
  · unfold lbadS at hq
    rw [all_dig] at hq
    obtain ⟨h0, hq⟩ := Bool.or_eq_false_iff.mp hq
    obtain ⟨h1, hq⟩ := Bool.or_eq_false_iff.mp hq
    have h1 : digS (plainS w) = false := by simpa using h1
    have h0 := of_decide_eq_false h0
    have hi : bifD .int [.str w] = some (.int (intS w)) := by
      cases hm : minusS w with
      | false =>
        have e : plainS w = w := by
          unfold plainS
          rw [hm]
          rfl
        rw [e] at h0 h1
        rw [int_str h1 h0 (by omega)]
        unfold intS
        rw [hm, e]
        rfl
      | true =>
        unfold minusS at hm
        have hm' := of_decide_eq_true hm
        rw [cut01] at hm'
        cases w with
        | nil => cases hm'
        | cons c r =>
          have ec : c = 45 := by simpa using hm'
          subst ec
          have e : plainS (45 :: r) = r := by
            unfold plainS minusS
            rw [if_pos hm, cut1]
            rfl
          rw [e] at h0 h1
          have h2 : isDs r = true := by
            rw [dig_ds] at h1
            simpa using h1
          have e1 : digitsD (45 :: r) = none := by
            unfold digitsD
            simp
          have e2 : digitsD r = some (digitsVal r) := by
            unfold digitsD
            unfold isDs at h2
            rw [h2]
            cases r with
            | nil => exact absurd rfl h0
            | cons c r => rfl
          show (if decide ((45 :: r).length ≤ 640) = true then (digitsI (45 :: r)).map D.int else none) = _
          rw [if_pos (decide_eq_true (by omega))]
          unfold digitsI
          rw [e1]
          simp only [decide_true, if_true, e2, Option.map]
          unfold intS minusS
          rw [if_pos hm, e]
          simp
    exact w_asg (S1 := S) (d := .int (intS w)) (re_bif rfl hi) rfl (w_ret (re_ite (rt_bl (fun _ _ => rfl) (re_cmp2 rfl rfl rfl rfl rfl)) (fun _ => rfl) (fun _ => rfl)))
  · unfold numS
    have e1 : (lbadS (plainS w) w) = (badS (plainS w) || decide (w = [45, 48])) := by
      generalize plainS w = p
      unfold lbadS badS canS
      rw [all_dig]
      cases p with
      | nil => rfl
      | cons c r =>
        cases hd : digS (c :: r) with
        | true => simp
        | false =>
          cases r with
          | nil =>
            by_cases hc : c = 48 <;> simp [hc]
          | cons c' r' =>
            have h2 : (1 : Int) < (c :: c' :: r').length := by
              rw [List.length_cons, List.length_cons]
              omega
            rw [decide_eq_true h2]
            simp
    rw [e1]
    cases hb : badS (plainS w) with
    | true => simp
    | false =>
      by_cases h0 : w = [45, 48]
      · simp [h0]
      · by_cases h1 : (-1000000000000 ≤ intS w) <;> by_cases h2 : (intS w ≤ 1000000000000) <;> simp [h0, h1, h2] <;> omega
end Ev.K95
set_option Elab.async false
set_option linter.all false
set_option autoImplicit false
set_option maxRecDepth 100000
set_option maxHeartbeats 4000000
/-! K95r: the plain law of k95: a command's text read. -/
namespace Ev.K95
open PySem PySem.Spec PyProof.Rows L2 TL Ev Ev.Ru NumText
theorem pre1 (c d : Nat) (r : List Nat) : pre [c] (d :: r) = decide (d = c) := by
  unfold pre
  show ([d] == [c]) = _
  by_cases h : d = c
  · subst h
    simp
  · simp [h]
theorem spl_all {c : Nat} (p : List Nat → Prop) : ∀ (x acc : List Nat), (∀ u v w, acc ++ x = u ++ v ++ w → p v) → ∀ q ∈ spl [c] 0 acc x, p q
  | [], acc, h, q, hq => by
    rw [spl_nil] at hq
    rw [List.mem_singleton.mp hq]
    exact h [] acc [] (by simp)
  | d :: r, acc, h, q, hq => by
    cases e : pre [c] (d :: r) with
    | true =>
      rw [spl_hit e] at hq
      rcases List.mem_cons.mp hq with rfl | hq
      · exact h [] _ (d :: r) (by simp)
      · exact spl_all p r [] (fun u v w z => h (acc ++ [d] ++ u) v w (by rw [List.nil_append] at z; rw [z]; simp)) q hq
    | false =>
      rw [spl_miss e] at hq
      exact spl_all p r (acc ++ [d]) (fun u v w z => h u v w (by rw [← z]; simp)) q hq
theorem spl_len {c : Nat} {x : List Nat} : ∀ q ∈ spl [c] 0 [] x, q.length ≤ x.length := spl_all (fun q => q.length ≤ x.length) x [] fun u v w z => by
  rw [List.nil_append] at z
  rw [z]
  simp
  omega
theorem spl_chars {c : Nat} {x : List Nat} (h : (x.all fun c => decide (c < 1114112)) = true) : ∀ q ∈ spl [c] 0 [] x, (q.all fun c => decide (c < 1114112)) = true := spl_all (fun q => (q.all fun c => decide (c < 1114112)) = true) x [] fun u v w z => by
  rw [List.nil_append] at z
  rw [z] at h
  rw [List.all_append, List.all_append] at h
  simp only [Bool.and_eq_true] at h
  exact h.1.2
theorem spl_cnt {c : Nat} : ∀ (x acc : List Nat), 1 ≤ (spl [c] 0 acc x).length ∧ (spl [c] 0 acc x).length ≤ x.length + 1
  | [], acc => by rw [spl_nil]; exact ⟨Nat.le_refl _, Nat.le_refl _⟩
  | d :: r, acc => by
    cases e : pre [c] (d :: r) with
    | true =>
      rw [spl_hit e]
      have := spl_cnt (c := c) r []
      show 1 ≤ (spl [c] 0 [] r).length + 1 ∧ (spl [c] 0 [] r).length + 1 ≤ r.length + 1 + 1
      omega
    | false =>
      rw [spl_miss e]
      have := spl_cnt (c := c) r (acc ++ [d])
      show _ ∧ _ ≤ r.length + 1 + 1
      omega
theorem spl_one {c : Nat} {w : List Nat} : ∀ (x acc : List Nat), spl [c] 0 acc x = [w] → acc ++ x = w
  | [], acc, h => by
    rw [spl_nil] at h
    rw [List.append_nil]
    exact (List.cons.inj h).1
  | d :: r, acc, h => by
    cases e : pre [c] (d :: r) with
    | true =>
      rw [spl_hit e] at h
      have h1 := (List.cons.inj h).2
      have := (spl_cnt (c := c) r []).1
      rw [show spl [c] 0 [] r = [] from h1] at this
      cases this
    | false =>
      rw [spl_miss e] at h
      have := spl_one r (acc ++ [d]) h
      rw [← this]
      simp
/-! arguments -/
def argL (w : List Nat) : List D := (spl [44] 0 [] w).map numS
def argsS (w : List Nat) : D := if w = [46] then .tup [] else if ((argL w).any isNon || decide ((6 : Int) < (argL w).length)) = true then .non else .tup (argL w)
theorem numS_flat (w : List Nat) : flatD (numS w) = true := by
  unfold numS
  split
  · rfl
  · split <;> rfl
theorem argL_flat (w : List Nat) : (argL w).all flatD = true := by
  rw [List.all_eq_true]
  intro y hy
  obtain ⟨q, _, rfl⟩ := List.mem_map.mp hy
  exact numS_flat q
theorem argL_len (w : List Nat) : (argL w).length ≤ w.length + 1 := by
  unfold argL
  rw [List.length_map]
  exact (spl_cnt w []).2
theorem in_flat {ys : List D} (h : ys.all flatD = true) : inD .non ys = some (ys.any isNon) := by
  unfold inD
  rw [h]
  show some _ = _
  rw [flat_non h]
theorem split_str {c : Nat} {w : List Nat} (hc : c < 256) (hw : w.length ≤ LINE) : metD .split (.str w) [.str [c]] = some (.lst ((spl [c] 0 [] w).map .str)) := by
  show (if (decide (c < 256) && decide (w.length ≤ LINE)) = true then _ else _) = _
  rw [decide_eq_true hc, decide_eq_true hw]
  rfl
theorem num_list (d : Nat) {S : Sto} {env : EnvD} {n : Nat} {w : List Nat} (hw : w.length ≤ 500) (hs : 4 < (wipeD [4] env).length) (hv : env[0]? = some (some (.str w))) (hn : 2000 ≤ n) :
    evE ⟨callD G (d + 4), lamD G (d + 4), G.sub, fun _ => .bad, none⟩ (n + 1) (.lc (.call 6 [(.var 4)] []) (.nm 4) (.met .split (.var 0) [(.cst (.str [44]))]) [] [4]) env S = .ok (.lst (argL w)) S := by
  have hl : ((spl [44] 0 [] w).map D.str).length ≤ w.length + 1 := by
    rw [List.length_map]
    exact (spl_cnt w []).2
  obtain ⟨m, rfl⟩ : ∃ m, n = m + 10 := ⟨n - 10, by omega⟩
  have h := re_vals (P := ⟨callD G (d + 4), lamD G (d + 4), G.sub, fun _ => .bad, none⟩) (n := m + 10) (e := .call 6 [(.var 4)] []) (it := .met .split (.var 0) [(.cst (.str [44]))]) (env := env) (S := S) (slot := 4) (m := 4) (own := [4])
    (g := fun d => match d with
    | .str q => numS q
    | _ => .non) (w := (spl [44] 0 [] w).map .str) (ri_e (fun _ _ => rfl) (re_met (re_var hv) rfl rfl (fun _ => by simp) (split_str (c := 44) (by decide) (by unfold LINE; omega))) rfl) rfl hs
    (fun x hx k => by
      obtain ⟨q, hq, rfl⟩ := List.mem_map.mp hx
      have := spl_len q hq
      exact re_call (res_cons (re_var (by rw [List.getElem?_set_self hs])) res_nil) rfl (number_of_str d q S (by omega))) (by omega) (by unfold LINE; omega)
  rw [List.map_map] at h
  exact h
theorem arguments_of_str (d : Nat) (w : List Nat) (S : Sto) (hw : w.length ≤ 500) : callD G (d + 5) 7 [.str w] S = .ok (argsS w) S := by
  have hl := argL_len w
  refine (call_w (df := f7) rfl rfl (w_guard (q := decide (w = [46])) (S1 := S) (S2 := S) (x := .tup []) (r := .ok (if ((argL w).any isNon || decide ((6 : Int) < (argL w).length)) = true then .non else .tup (argL w)) S) (rt_bl (fun _ _ => rfl) (re_cmp rfl rfl rfl)) (fun _ => rfl) (fun _ => ?_))).trans ?_
  · exact w_asg (S1 := S) (d := .tup (argL w)) (re_bif (res_cons (num_list d hw (Nat.le_of_ble_eq_true rfl) rfl (by omega)) res_nil) rfl) rfl (w_ret (re_ite (rt_or (rt_bl (fun _ _ => rfl) (re_cmp rfl rfl (congrArg (fun o => blO o) (in_flat (argL_flat w))))) (fun _ => rt_bl (fun _ _ => rfl) (re_cmp rfl rfl rfl))) (fun _ => rfl) (fun _ => rfl)))
  · unfold argsS
    by_cases h : w = [46]
    · rw [decide_eq_true h, if_pos rfl, if_pos h]
    · rw [decide_eq_false h, if_neg Bool.false_ne_true, if_neg h]
def partS (k : Nat) (w : List Nat) : D := if k = 110 then (if nameS w = true then .str w else .non) else if k = 99 then countS w else argsS w
theorem one_eq (a b : Nat) : decide ([a] = [b]) = decide (a = b) := by simp
theorem part_of_str (d k : Nat) (w : List Nat) (S : Sto) (hw : w.length ≤ 500) : callD G (d + 6) 8 [.str [k], .str w] S = .ok (partS k w) S := by
  refine (call_w (df := f8) rfl rfl (w_guard (q := decide ([k] = [110])) (S1 := S) (S2 := S) (x := if nameS w = true then .str w else .non) (r := .ok (if decide ([k] = [99]) = true then countS w else argsS w) S) (rt_bl (fun _ _ => rfl) (re_cmp rfl rfl rfl)) (fun _ => ?_) (fun _ => ?_))).trans ?_
  · exact re_ite (rt_bl (fun _ _ => rfl) (re_call rfl rfl (is_name_str (d + 4) w S (by omega)))) (fun _ => rfl) (fun _ => rfl)
  · exact w_ret (re_ite (rt_bl (fun _ _ => rfl) (re_cmp rfl rfl rfl)) (fun _ => re_call rfl rfl (count_of_str (d + 4) w S (by omega))) (fun _ => re_call rfl rfl (arguments_of_str d w S hw)))
  · unfold partS
    rw [one_eq, one_eq]
    by_cases h : k = 110
    · simp [h]
    · by_cases h2 : k = 99 <;> simp [h, h2]
end Ev.K95
set_option Elab.async false
set_option linter.all false
set_option autoImplicit false
set_option maxRecDepth 100000
set_option maxHeartbeats 4000000
/-! K95s: the plain law of k95: parts_by. -/
namespace Ev.Ru
open PySem PySem.Spec PyProof.Rows L2 TL Ev NumText
/-- a comprehension over values, any target, the store unchanged -/
theorem rL_any {P : Pg} {e : Ex} {tg : Tg} {env : EnvD} {S : Sto} {m : Nat} {g : D → D} : ∀ (xs : List D) (n i : Nat), (∀ x ∈ xs, ∃ env1, tgD tg x env = some env1 ∧ ∀ k, evE P (k + m) e env1 S = .ok (g x) S) → xs.length + m + 2 ≤ n → evL P n e tg [] (.fix xs) i env S = .ok (xs.map g) S
  | xs, 0, i, _, h => by omega
  | [], n + 1, i, _, _ => by
    unfold evL
    rfl
  | x :: xs, n + 1, i, hx, h => by
    rw [List.length_cons] at h
    have ih := rL_any xs n (i + 1) (fun y hy => hx y (List.mem_cons_of_mem _ hy)) (by omega)
    obtain ⟨env1, ht, h0⟩ := hx x (List.mem_cons_self ..)
    have h0 := h0 (n - m)
    rw [show n - m + m = n by omega] at h0
    have h2 : evTs P n [] env1 S = .ok true S := by
      cases n with
      | zero => omega
      | succ n => rfl
    unfold evL
    simp only [Src.next, ht, h2, R.bind, if_true, h0, ih, List.map_cons]
end Ev.Ru
namespace Ev.K95
open PySem PySem.Spec PyProof.Rows L2 TL Ev Ev.Ru NumText
def FKS : List (List Nat) := [[111, 112, 101, 110], [98, 101, 97, 116], [99, 111, 109, 109, 105, 116], [108, 101, 97, 118, 101], [115, 121, 110, 99], [105, 109, 97, 103, 101], [99, 117, 116], [99, 108, 101, 97, 110], [102, 111, 114, 103, 101, 116], [99, 114, 97, 115, 104], [99, 111, 112, 121], [112, 117, 108, 108], [97, 115, 107]]
def FVS : List (List (List Nat)) := [[[110, 110, 97]], [[110, 99]], [[110]], [[110]], [[]], [[]], [[]], [[]], [[]], [[99, 99], [99, 99, 99, 99]], [[110]], [[110]], [[110, 110, 97]]]
def formsS (w : List Nat) : List (List Nat) := (((FKS.zip FVS).find? fun p => decide (p.1 = w)).map (·.2)).getD []
def tD (fs : List (List Nat)) : D := .tup (fs.map .str)
theorem forms_gen (w : List Nat) : ∀ (ks : List (List Nat)) (vs : List (List (List Nat))), (((((ks.map D.str).zip (vs.map tD)).find? fun p => keyIsD p.1 (.str w)).map (·.2)).getD (.tup [])) = tD ((((ks.zip vs).find? fun p => decide (p.1 = w)).map (·.2)).getD [])
  | [], _ => rfl
  | _ :: _, [] => rfl
  | k :: ks, v :: vs => by
    have ih := forms_gen w ks vs
    show ((((D.str k, tD v) :: (ks.map D.str).zip (vs.map tD)).find? fun p => keyIsD p.1 (.str w)).map (·.2)).getD (.tup []) = tD (((((k, v) :: ks.zip vs).find? fun p => decide (p.1 = w)).map (·.2)).getD [])
    by_cases h : k = w
    · rw [List.find?_cons_of_pos (by exact decide_eq_true h), List.find?_cons_of_pos (by exact decide_eq_true h)]
      rfl
    · rw [List.find?_cons_of_neg (by exact fun z => h (of_decide_eq_true z)), List.find?_cons_of_neg (by exact fun z => h (of_decide_eq_true z))]
      exact ih
theorem get_forms (w : List Nat) : metD .get (.wdi (FKS.map .str) (FVS.map tD)) [.str w, .tup []] = some (tD (formsS w)) := by
  show some _ = _
  exact congrArg some (forms_gen w FKS FVS)
theorem forms_chars (w : List Nat) : ∀ f ∈ formsS w, f.length ≤ 4 ∧ ∀ c ∈ f, c = 110 ∨ c = 99 ∨ c = 97 := by
  unfold formsS
  cases h : (FKS.zip FVS).find? fun p => decide (p.1 = w) with
  | none => intro f hf; cases hf
  | some p =>
    have hm := List.mem_of_find?_eq_some h
    have : ∀ p ∈ FKS.zip FVS, ∀ f ∈ p.2, f.length ≤ 4 ∧ ∀ c ∈ f, c = 110 ∨ c = 99 ∨ c = 97 := by decide
    exact this p hm
/-- the kinds with the words -/
def zipP : List Nat → List (List Nat) → List D
  | k :: f, w :: r => partS k w :: zipP f r
  | _, _ => []
theorem zipP_len : ∀ (f : List Nat) (r : List (List Nat)), (zipP f r).length ≤ f.length
  | [], _ => Nat.zero_le _
  | _ :: _, [] => Nat.zero_le _
  | k :: f, w :: r => Nat.succ_le_succ (zipP_len f r)
def bad1 (w : List Nat) : Prop := w.length ≤ 500 ∧ (w.all fun c => decide (c < 1114112)) = true
theorem okDs_all {ys : List D} (h : ∀ y ∈ ys, okD y = true) : okDs ys = true := by
  induction ys with
  | nil => rfl
  | cons y r ih => exact Bool.and_eq_true_iff.mpr ⟨h y (List.mem_cons_self ..), ih fun z hz => h z (List.mem_cons_of_mem _ hz)⟩
theorem deps_all {ys : List D} {k : Nat} (h : ∀ y ∈ ys, dep y ≤ k) : deps ys ≤ k := by
  induction ys with
  | nil => exact Nat.zero_le _
  | cons y r ih => exact Nat.max_le.mpr ⟨h y (List.mem_cons_self ..), ih fun z hz => h z (List.mem_cons_of_mem _ hz)⟩
theorem bnds_all {ys : List D} {k : Nat} (h : ∀ y ∈ ys, bnd y ≤ k) : bnds ys ≤ (k + 2) * ys.length := by
  induction ys with
  | nil => exact Nat.zero_le _
  | cons y r ih =>
    have h1 := ih fun z hz => h z (List.mem_cons_of_mem _ hz)
    have h2 := h y (List.mem_cons_self ..)
    show bnd y + 2 + bnds r ≤ (k + 2) * (r.length + 1)
    rw [Nat.mul_add, Nat.mul_one]
    omega
theorem ok_flat {y : D} (h : okD y = true) (hf : flatD y = true) : dep y = 0 := by
  cases y <;> first | rfl | cases hf
theorem numS_ok (w : List Nat) : okD (numS w) = true ∧ bnd (numS w) ≤ 41 := by
  unfold numS
  split
  · exact ⟨rfl, by decide⟩
  · split
    · exact ⟨rfl, by decide⟩
    · rename_i h
      rw [Bool.or_eq_true] at h
      have h2 := not_or.mp h
      have h3 := h2.2
      simp only [Bool.not_eq_true, Bool.not_eq_false', Bool.and_eq_true, decide_eq_true_eq] at h3
      have : (intS w).natAbs < 10 ^ 40 := by omega
      exact ⟨decide_eq_true this, Nat.le_refl _⟩
theorem countS_ok (w : List Nat) : okD (countS w) = true ∧ bnd (countS w) ≤ 41 ∧ dep (countS w) = 0 := by
  unfold countS
  split
  · exact ⟨rfl, by decide, rfl⟩
  · rename_i h
    split
    · rw [Bool.or_eq_true] at h
      have h2 := not_or.mp h
      have h3 := h2.1
      have h4 : isDs w = true := by
        have := h2.2
        rw [dig_ds] at this
        simpa using this
      simp only [Bool.not_eq_true, Bool.not_eq_false', Bool.and_eq_true, decide_eq_true_eq] at h3
      have h5 := val_lt (isDs_all h4)
      have h6 : 10 ^ w.length ≤ 10 ^ 9 := Nat.pow_le_pow_right (by decide) (by omega)
      have : ((digitsVal w : Nat) : Int).natAbs < 10 ^ 40 := by
        rw [Int.natAbs_natCast]
        omega
      exact ⟨decide_eq_true this, Nat.le_refl _, rfl⟩
    · exact ⟨rfl, by decide, rfl⟩
theorem argsS_ok (w : List Nat) : okD (argsS w) = true ∧ bnd (argsS w) ≤ 300 ∧ dep (argsS w) ≤ 1 := by
  unfold argsS
  split
  · exact ⟨rfl, by decide, by decide⟩
  · split
    · exact ⟨rfl, by decide, by decide⟩
    · rename_i h
      rw [Bool.or_eq_true] at h
      have h2 := (not_or.mp h).2
      have h3 : (argL w).length ≤ 6 := by
        have := of_decide_eq_false (Bool.eq_false_iff.mpr h2)
        omega
      have h4 : ∀ y ∈ argL w, okD y = true ∧ bnd y ≤ 41 := fun y hy => by
        obtain ⟨q, _, rfl⟩ := List.mem_map.mp hy
        exact numS_ok q
      have h5 := bnds_all fun y hy => (h4 y hy).2
      refine ⟨okDs_all fun y hy => (h4 y hy).1, ?_, Nat.succ_le_succ (deps_all fun y hy => Nat.le_of_eq (ok_flat (h4 y hy).1 (List.all_eq_true.mp (argL_flat w) y hy)))⟩
      show bnds (argL w) + 3 ≤ 300
      have : (41 + 2) * (argL w).length ≤ 43 * 6 := Nat.mul_le_mul_left _ h3
      omega
theorem partS_ok {w : List Nat} (h : bad1 w) (k : Nat) : okD (partS k w) = true ∧ bnd (partS k w) ≤ 5002 ∧ dep (partS k w) ≤ 1 := by
  unfold partS
  split
  · split
    · refine ⟨h.2, ?_, Nat.zero_le _⟩
      show 10 * w.length + 2 ≤ 5002
      have := h.1
      omega
    · exact ⟨rfl, by decide, by decide⟩
  · split
    · have := countS_ok w
      exact ⟨this.1, by omega, by omega⟩
    · have := argsS_ok w
      exact ⟨this.1, by omega, by omega⟩
theorem zipP_ok : ∀ (f : List Nat) (r : List (List Nat)), (∀ w ∈ r, bad1 w) → ∀ y ∈ zipP f r, okD y = true ∧ bnd y ≤ 5002 ∧ dep y ≤ 1
  | [], _, _, y, hy => by cases hy
  | _ :: _, [], _, y, hy => by cases hy
  | k :: f, w :: r, h, y, hy => by
    rcases List.mem_cons.mp hy with rfl | hy
    · exact partS_ok (h w (List.mem_cons_self ..)) k
    · exact zipP_ok f r (fun w hw => h w (List.mem_cons_of_mem _ hw)) y hy
def resS (w0 : List Nat) (ps : List D) : D := if ps.any isNon = true then .non else .tup (.str w0 :: ps)
def formS (w0 : List Nat) (n : Nat) : Option (List Nat) := (formsS w0).find? fun f => decide (n = f.length)
def wordsS (ws : List (List Nat)) : D := match ws with
  | [] => .non
  | w0 :: r => match formS w0 r.length with
    | none => .non
    | some f => resS w0 (zipP f r)
def isDeed (x : List Nat) : Bool := decide (cutD x none (some 5) = [100, 101, 101, 100, 32])
def parseS (x : List Nat) : D := if isDeed x = true then .tup [.str [100, 101, 101, 100], .str x] else wordsS (spl [32] 0 [] x)
theorem sub0l (a : D) (r : List D) : subD (.lst (a :: r)) (.int 0) = some a := by
  unfold subD ixD
  simp
theorem cut1l (a : D) (r : List D) : cutD (a :: r) (some 1) none = r := by
  unfold cutD HT.sIx
  simp
theorem zipD_map : ∀ (f : List Nat) (r : List (List Nat)), (zipD (f.map fun c => D.str [c]) (r.map D.str)).map (fun d => match d with
      | .tup [.str [k], .str w] => partS k w
      | _ => .non) = zipP f r
  | [], _ => rfl
  | _ :: _, [] => rfl
  | k :: f, w :: r => congrArg (partS k w :: ·) (zipD_map f r)
theorem zipD_mem : ∀ (f : List Nat) (r : List (List Nat)) (x : D), x ∈ zipD (f.map fun c => D.str [c]) (r.map D.str) → ∃ k ∈ f, ∃ w ∈ r, x = .tup [.str [k], .str w]
  | [], _, x, h => by cases h
  | _ :: _, [], x, h => by cases h
  | k :: f, w :: r, x, h => by
    rcases List.mem_cons.mp h with rfl | h
    · exact ⟨k, List.mem_cons_self .., w, List.mem_cons_self .., rfl⟩
    · obtain ⟨k', hk, w', hw, e⟩ := zipD_mem f r x h
      exact ⟨k', List.mem_cons_of_mem _ hk, w', List.mem_cons_of_mem _ hw, e⟩
theorem zipD_len : ∀ (f r : List D), (zipD f r).length ≤ f.length
  | [], _ => Nat.zero_le _
  | _ :: _, [] => Nat.zero_le _
  | _ :: f, _ :: r => Nat.succ_le_succ (zipD_len f r)
theorem zip_parts (d : Nat) {S : Sto} {n i : Nat} {f : List Nat} {r : List (List Nat)} {e0 e1 e2 e3 e4 e5 e6 e7 e8 e9 : Option D} (hr : ∀ w ∈ r, bad1 w) (hf : f.length ≤ 4) (hn : 2000 ≤ n) :
    evL ⟨callD G (d + 6), lamD G (d + 6), G.sub, fun _ => .bad, none⟩ n (.call 8 [(.var 5), (.var 6)] []) (.tup [.nm 5, .nm 6]) [] (.fix (zipD (f.map fun c => D.str [c]) (r.map D.str))) i [e0, e1, e2, e3, e4, e5, e6, e7, e8, e9] S = .ok (zipP f r) S := by
  have h := rL_any (P := ⟨callD G (d + 6), lamD G (d + 6), G.sub, fun _ => .bad, none⟩) (e := .call 8 [(.var 5), (.var 6)] []) (tg := .tup [.nm 5, .nm 6]) (env := [e0, e1, e2, e3, e4, e5, e6, e7, e8, e9]) (S := S) (m := 8) (g := fun d => match d with
      | .tup [.str [k], .str w] => partS k w
      | _ => .non) (zipD (f.map fun c => D.str [c]) (r.map D.str)) n i (fun x hx => by
    obtain ⟨k, hk, w, hw, rfl⟩ := zipD_mem f r x hx
    exact ⟨_, rfl, fun k' => re_call (res_cons (re_var rfl) (res_cons (re_var rfl) res_nil)) rfl (part_of_str d k w S (hr w hw).1)⟩) (by
    have := zipD_len (f.map fun c => D.str [c]) (r.map D.str)
    rw [List.length_map] at this
    omega)
  rw [zipD_map] at h
  exact h
def pbB : List Sm := [.iff (.cmp .Eq (.bif .len [(.var 1)]) (.bop .Add (.bif .len [(.var 2)]) (.cst (.int (1))))) [.asg (.nm 3) (.bif .tuple [(.lc (.call 8 [(.var 5), (.var 6)] []) (.tup [.nm 5, .nm 6]) (.zip (.var 2) (.slc (.var 1) (.cst (.int (1))) (.cst (.non)))) [] [5, 6])]), .ret (.ife (.cmp .NotIn (.cst (.non)) (.var 3)) (.bop .Add (.tup [(.sub (.var 1) (.cst (.int (0))))]) (.var 3)) (.cst (.non)))] []]
theorem parts_loop (d : Nat) {x : D} {w0 : List Nat} {r : List (List Nat)} {S : Sto} {k : EnvD → Sto → R D} (hr : ∀ w ∈ r, bad1 w) (hrl : r.length ≤ 1000) (hk : ∀ e2, k [some x, some (.lst (.str w0 :: r.map .str)), e2, none, none, none, none, none, none, none] S = .ok .non S) :
    ∀ (fs : List (List Nat)) (n i : Nat) (e2 : Option D), (∀ f ∈ fs, f.length ≤ 4) → thenR (evF ⟨callD G (d + 6), lamD G (d + 6), G.sub, fun _ => .bad, none⟩ (n + 5000 + fs.length) (.nm 2) pbB (.fix (fs.map .str)) i [some x, some (.lst (.str w0 :: r.map .str)), e2, none, none, none, none, none, none, none] S) k
      = .ok (match fs.find? fun f => decide (r.length = f.length) with
        | none => .non
        | some f => resS w0 (zipP f r)) S := by
  intro fs
  induction fs with
  | nil => intro n i e2 hf; exact w_fnil (hk e2)
  | cons f fs ih =>
    intro n i e2 hf
    have ih := ih n (i + 1) (some (.str f)) (fun g hg => hf g (List.mem_cons_of_mem _ hg))
    have hf4 := hf f (List.mem_cons_self ..)
    have hm : 5000 ≤ n + 5000 + fs.length := by omega
    show thenR (evF _ (n + 5000 + fs.length + 1) (.nm 2) pbB (.fix (.str f :: fs.map .str)) i _ S) k = _
    revert ih hm
    generalize n + 5000 + fs.length = m
    intro ih hm
    obtain ⟨m, rfl⟩ : ∃ m', m = m' + 5000 := ⟨m - 5000, by omega⟩
    by_cases h : r.length = f.length
    · rw [List.find?_cons_of_pos (by exact decide_eq_true h)]
      have hc : (some (D.bl ((((D.str w0 :: r.map D.str).length : Nat) : Int) == ((f.length : Nat) : Int) + 1)) : Option D) = some (.bl true) := by
        simp [h]
      have ok := zipP_ok f r hr
      have hz := zipP_len f r
      refine w_fcons rfl ?_
      unfold pbB
      refine (w_iffT (S1 := S) (rt_bl (fun _ _ => rfl) (re_cmp rfl rfl hc)) (w_asg (S1 := S) (d := .tup (zipP f r)) (re_bif (res_cons (re_lc2 (ri_zip (re_var rfl) (re_slc rfl rfl rfl rfl rfl (congrArg (fun l => some (D.lst l)) (cut1l _ _))) rfl rfl) rfl (zip_parts d hr hf4 (by omega)) (by unfold LINE; omega)) res_nil) rfl) rfl (w_ret ?_)))
      refine re_ite2 (q := !(zipP f r).any isNon) (rt_bl (fun _ _ => rfl) (re_cmp rfl rfl (congrArg notO (in_non (okDs_all fun y hy => (ok y hy).1) (Nat.lt_of_le_of_lt (deps_all fun y hy => (ok y hy).2.2) (by decide)))))) (fun hq => ?_) (fun hq => ?_)
      · have hq : (zipP f r).any isNon = false := by simpa using hq
        refine (re_bop (S1 := S) (x := .tup [.str w0]) (re_tup (res_cons (re_sub (S1 := S) (S2 := S) (x := .lst (.str w0 :: r.map .str)) (y := .int 0) rfl rfl (sub0l (.str w0) (r.map .str))) res_nil)) rfl (?_ : bopD .Add (.tup [.str w0]) (.tup (zipP f r)) = some (.tup (.str w0 :: zipP f r)))).trans ?_
        · have : catOk [D.str w0].length (zipP f r).length = true := by
            unfold catOk LINE
            rw [decide_eq_true (Nat.le_of_ble_eq_true rfl), decide_eq_true (by omega)]
            rfl
          exact if_pos this
        · show _ = R.ok (if (zipP f r).any isNon = true then D.non else D.tup (.str w0 :: zipP f r)) S
          rw [hq]
          rfl
      · have hq : (zipP f r).any isNon = true := by simpa using hq
        show _ = R.ok (if (zipP f r).any isNon = true then D.non else D.tup (.str w0 :: zipP f r)) S
        rw [hq]
        rfl
    · rw [List.find?_cons_of_neg (by exact fun z => h (of_decide_eq_true z))]
      have hc : (some (D.bl ((((D.str w0 :: r.map D.str).length : Nat) : Int) == ((f.length : Nat) : Int) + 1)) : Option D) = some (.bl false) := by
        have : ¬ ((r.length : Int) = f.length) := by omega
        simp [h, this]
      refine w_fcons rfl ?_
      unfold pbB
      exact (w_iffF (S1 := S) (rt_bl (fun _ _ => rfl) (re_cmp rfl rfl hc)) (w_nil ih))
theorem parts_by_str (d : Nat) (x : List Nat) (S : Sto) (hx : bad1 x) : callD G (d + 7) 9 [.str x] S = .ok (parseS x) S := by
  refine (call_w (df := f9) rfl rfl (w_guard (q := isDeed x) (S1 := S) (S2 := S) (x := .tup [.str [100, 101, 101, 100], .str x]) (r := .ok (wordsS (spl [32] 0 [] x)) S) (rt_bl (fun _ _ => rfl) (re_cmp (re_slc rfl rfl rfl rfl rfl rfl) rfl rfl)) (fun _ => rfl) (fun _ => ?_))).trans ?_
  · refine w_asg (S1 := S) (re_met rfl rfl rfl (fun _ => by simp) (split_str (c := 32) (by decide) (by have := hx.1; unfold LINE; omega))) rfl ?_
    have hcnt := spl_cnt (c := 32) x []
    have hlen := spl_len (c := 32) (x := x)
    have hch := spl_chars (c := 32) hx.2
    have hxl := hx.1
    revert hcnt hlen hch
    generalize spl [32] 0 [] x = ws
    intro hcnt hlen hch
    cases ws with
    | nil => exact absurd hcnt.1 (by decide)
    | cons w0 r =>
      have hb : ∀ w ∈ r, bad1 w := fun w hw => ⟨Nat.le_trans (hlen w (List.mem_cons_of_mem _ hw)) hxl, hch w (List.mem_cons_of_mem _ hw)⟩
      have hc2 := hcnt.2
      rw [List.length_cons] at hc2
      have hfl : (formsS w0).length ≤ 1000 := by
        unfold formsS
        cases h : (FKS.zip FVS).find? fun p => decide (p.1 = w0) with
        | none => exact Nat.zero_le _
        | some p =>
          have hm := List.mem_of_find?_eq_some h
          have : ∀ p ∈ FKS.zip FVS, p.2.length ≤ 1000 := by decide
          exact this p hm
      have L := parts_loop d (x := .str x) (w0 := w0) (r := r) (S := S) (k := fun env S => thenR (evSs ⟨callD G (d + 6), lamD G (d + 6), G.sub, fun _ => .bad, none⟩ (899997) [.ret (.cst .non)] env S) (fun _ S => .ok .non S)) hb (by omega) (fun e2 => w_ret rfl) (formsS w0) (899996 - 5000 - (formsS w0).length) 0 none (fun f hf => (forms_chars w0 f hf).1)
      rw [show 899996 - 5000 - (formsS w0).length + 5000 + (formsS w0).length = 899996 by omega] at L
      exact w_for (S1 := S) (src := .fix ((formsS w0).map .str)) (ri_e (fun _ _ => rfl) (re_met rfl rfl (res_cons (re_sub rfl rfl (sub0l _ _)) (res_cons rfl res_nil)) (fun _ => by simp) (get_forms w0)) rfl) L
  · unfold parseS
    cases isDeed x <;> rfl
theorem read_command_str (d : Nat) (x : List Nat) (S : Sto) (hx : bad1 x) : callD G (d + 8) 14 [.str x] S = .ok (parseS x) S :=
  call_w (df := f14) rfl rfl (w_ret (re_iteT rfl (re_call rfl rfl (parts_by_str d x S hx))))
end Ev.K95
set_option Elab.async false
set_option linter.all false
set_option autoImplicit false
set_option maxRecDepth 100000
set_option maxHeartbeats 4000000
/-! K95t: the plain law of k95: the law's own reading. -/
namespace Ev.K95
open PySem PySem.Spec PyProof.Rows L2 TL Ev Ev.Ru NumText
theorem ltr_eq (c : Nat) : (!decide ([c] < [97]) && !decide ([122] < [c])) = LTR.contains c := by
  have e1 : decide ([c] < [97]) = decide (c < 97) := by simp [List.cons_lt_cons_iff]
  have e2 : decide ([122] < [c]) = decide (122 < c) := by simp [List.cons_lt_cons_iff]
  rw [e1, e2]
  by_cases h : c < 123
  · have : ∀ c, c < 123 → (!decide (c < 97) && !decide (122 < c)) = LTR.contains c := by decide
    exact this c h
  · have h1 : LTR.contains c = false := by
      cases e : LTR.contains c with
      | false => rfl
      | true =>
        have := List.contains_iff_mem.mp e
        unfold LTR at this
        simp at this
        omega
    rw [h1, decide_eq_true (by omega : 122 < c)]
    simp
theorem closed_call (d : Nat) (S : Sto) : callD G (d + 1) 21 [] S = .ok (.lst CLD) S := by rfl
theorem pow12 : bopD .Pow (.int 10) (.int 12) = some (.int 1000000000000) := by rfl
theorem look_ok {y : D} {S : Sto} (h : okD y = true) : y.look S = y := by
  cases y <;> first | rfl | cases h
theorem app_ok {S0 : Sto} {acc : List D} {y : D} (h : acc.length < LINE) : metS .append S0.length [y] (S0 ++ [.lst acc]) = .ok .non (S0 ++ [.lst (acc ++ [y])]) := by
  unfold metS
  have e : (S0 ++ [SO.lst acc])[S0.length]? = some (.lst acc) := by simp
  simp only [e]
  rw [if_pos (decide_eq_true h)]
  congr 1
  simp
def rdB : List Sm := [.asg (.nm 7) (.ife (.cmp .Eq (.var 5) (.cst (.str [110]))) (.var 6) (.call 25 [(.var 6), (.cst (.int (999999999))), (.cst (.bl false))] [])), .iff (.and_ (.cmp .Eq (.var 5) (.cst (.str [110]))) (.or_ (.not_ (.cmp2 .LtE .LtE (.cst (.int (1))) (.bif .len [(.var 6)]) (.cst (.int (8))))) (.or_ (.not_ (.bif .all [(.lc (.cmp2 .LtE .LtE (.cst (.str [97])) (.var 9) (.cst (.str [122]))) (.nm 9) (.var 6) [] [9])])) (.cmp .In (.var 6) (.call 21 [] []))))) [.ret (.cst (.non))] [], .iff (.cmp .Eq (.var 5) (.cst (.str [97]))) [.asg (.nm 8) (.ife (.cmp .NotEq (.var 6) (.cst (.str [46]))) (.lc (.call 25 [(.var 10), (.bop .Pow (.cst (.int (10))) (.cst (.int (12)))), (.cst (.bl true))] []) (.nm 10) (.met .split (.var 6) [(.cst (.str [44]))]) [] [10]) (.lst [])), .asg (.nm 7) (.ife (.and_ (.cmp .NotIn (.cst (.non)) (.var 8)) (.cmp .Lt (.bif .len [(.var 8)]) (.cst (.int (7))))) (.bif .tuple [(.var 8)]) (.cst (.non)))] [], .iff (.cmp .Is (.var 7) (.cst (.non))) [.ret (.cst (.non))] [], .expr (.met .append (.var 4) [(.var 7)])]
section
variable {d n : Nat} {S0 : Sto} {x W Fm fm : D} {acc : List D} {w : List Nat} {e7 e8 e9 e10 e11 : Option D} {k : EnvD → Sto → R D} {r : R D}
theorem rd_n (hw : bad1 w) (hl : acc.length < LINE) (hT : isNon (partS 110 w) = true → r = .ok .non (S0 ++ [.lst acc]))
    (hF : isNon (partS 110 w) = false → ∀ e8', k [some x, some W, some Fm, some fm, some (.ref S0.length), some (.str [110]), some (.str w), some (partS 110 w), e8', e9, e10, e11] (S0 ++ [.lst (acc ++ [partS 110 w])]) = r) :
    thenR (evSs ⟨callD G (d + 1), lamD G (d + 1), G.sub, fun _ => .bad, none⟩ (n + 4000) rdB [some x, some W, some Fm, some fm, some (.ref S0.length), some (.str [110]), some (.str w), e7, e8, e9, e10, e11] (S0 ++ [.lst acc])) k = r := by
  have hp : partS 110 w = if nameS w = true then .str w else .non := by
    unfold partS
    rw [if_pos rfl]
  have hn : (!len18 w || (!(w.all fun c => !decide ([c] < [97]) && !decide ([122] < [c])) || closedS w)) = !nameS w := by
    have : (w.all fun c => !decide ([c] < [97]) && !decide ([122] < [c])) = w.all fun c => LTR.contains c := by
      congr 1
      funext c
      exact ltr_eq c
    rw [this]
    unfold nameS
    cases len18 w <;> cases closedS w <;> cases (w.all fun c => LTR.contains c) <;> rfl
  have hw1 := hw.1
  unfold rdB
  refine w_asg (S1 := S0 ++ [.lst acc]) (d := .str w) (re_iteT rfl rfl) rfl (w_if (q := !len18 w || (!(w.all fun c => !decide ([c] < [97]) && !decide ([122] < [c])) || closedS w)) (S1 := S0 ++ [.lst acc]) (rt_andT rfl (rt_or (rt_not (rt_bl (fun _ _ => rfl) (re_cmp2 rfl rfl rfl rfl rfl))) (fun _ => rt_or (rt_not (rt_bl (fun _ _ => rfl) (re_bif (res_cons (re_chars (m := 2) (w := w) (g := fun c => .bl (!decide ([c] < [97]) && !decide ([122] < [c]))) rfl rfl (Nat.le_of_ble_eq_true rfl) (fun c _ k => re_cmp2 rfl rfl rfl rfl rfl) (by omega) (by unfold LINE; omega)) res_nil) (all_map w)))) (fun _ => rt_bl (fun _ _ => rfl) (re_cmp rfl (re_call rfl rfl (closed_call d _)) rfl))))) (fun hq => ?_) (fun hq => ?_))
  · rw [hn] at hq
    have hq : nameS w = false := by simpa using hq
    rw [hp, hq] at hT
    rw [hT rfl]
    exact w_ret rfl
  · rw [hn] at hq
    have hq : nameS w = true := by simpa using hq
    rw [hp, hq] at hF
    exact w_iffF rfl (w_nil (w_iffF rfl (w_nil (w_expr (re_mets rfl rfl rfl (app_ok hl)) (w_nil (hF rfl _))))))
theorem rd_c (hw : bad1 w) (hl : acc.length < LINE) (hT : isNon (partS 99 w) = true → r = .ok .non (S0 ++ [.lst acc]))
    (hF : isNon (partS 99 w) = false → ∀ e8', k [some x, some W, some Fm, some fm, some (.ref S0.length), some (.str [99]), some (.str w), some (partS 99 w), e8', e9, e10, e11] (S0 ++ [.lst (acc ++ [partS 99 w])]) = r) :
    thenR (evSs ⟨callD G (d + 1), lamD G (d + 1), G.sub, fun _ => .bad, none⟩ (n + 4000) rdB [some x, some W, some Fm, some fm, some (.ref S0.length), some (.str [99]), some (.str w), e7, e8, e9, e10, e11] (S0 ++ [.lst acc])) k = r := by
  have hp : partS 99 w = countS w := by
    unfold partS
    rw [if_neg (by decide), if_pos rfl]
  have hw1 := hw.1
  rw [hp] at hT hF
  have ho := (countS_ok w).1
  unfold rdB
  refine w_asg (S1 := S0 ++ [.lst acc]) (d := countS w) (re_iteF rfl (re_call rfl rfl (lnum_false d w _ (by omega)))) rfl (w_iffF (S1 := S0 ++ [.lst acc]) (rt_andF rfl) (w_nil (w_iffF (S1 := S0 ++ [.lst acc]) rfl (w_nil (w_if (S1 := S0 ++ [.lst acc]) (q := isNon (countS w)) (rt_bl (fun _ _ => rfl) (re_cmp (x := countS w) (S1 := S0 ++ [.lst acc]) rfl rfl (by rw [look_ok ho]; rfl))) (fun hq => ?_) (fun hq => ?_))))))
  · rw [hT hq]
    exact w_ret rfl
  · exact w_expr (re_mets rfl rfl rfl (app_ok hl)) (w_nil (hF hq _))
def argA (w : List Nat) : List D := if w = [46] then [] else argL w
theorem argA_flat (w : List Nat) : (argA w).all flatD = true := by
  unfold argA
  split
  · rfl
  · exact argL_flat w
theorem argA_eq (w : List Nat) : (if (!(argA w).any isNon && decide (((argA w).length : Int) < 7)) = true then .tup (argA w) else .non) = argsS w := by
  unfold argA argsS
  by_cases h : w = [46]
  · rw [if_pos h, if_pos h]
    rfl
  · rw [if_neg h, if_neg h]
    cases hq : (argL w).any isNon with
    | true => rfl
    | false =>
      by_cases h7 : ((argL w).length : Int) < 7
      · have : ¬ (6 : Int) < (argL w).length := by omega
        simp [h7, this]
      · have : (6 : Int) < (argL w).length := by omega
        simp [h7, this]
theorem num_list2 {S : Sto} {env : EnvD} (hw : w.length ≤ 500) (hs : 10 < (wipeD [10] env).length) (hv : env[6]? = some (some (.str w))) (hn : 2000 ≤ n) :
    evE ⟨callD G (d + 1), lamD G (d + 1), G.sub, fun _ => .bad, none⟩ (n + 1) (.lc (.call 25 [(.var 10), (.bop .Pow (.cst (.int (10))) (.cst (.int (12)))), (.cst (.bl true))] []) (.nm 10) (.met .split (.var 6) [(.cst (.str [44]))]) [] [10]) env S = .ok (.lst (argL w)) S := by
  have hl : ((spl [44] 0 [] w).map D.str).length ≤ w.length + 1 := by
    rw [List.length_map]
    exact (spl_cnt w []).2
  obtain ⟨m, rfl⟩ : ∃ m, n = m + 10 := ⟨n - 10, by omega⟩
  have h := re_vals (P := ⟨callD G (d + 1), lamD G (d + 1), G.sub, fun _ => .bad, none⟩) (n := m + 10) (e := .call 25 [(.var 10), (.bop .Pow (.cst (.int (10))) (.cst (.int (12)))), (.cst (.bl true))] []) (it := .met .split (.var 6) [(.cst (.str [44]))]) (env := env) (S := S) (slot := 10) (m := 8) (own := [10])
    (g := fun d => match d with
    | .str q => numS q
    | _ => .non) (w := (spl [44] 0 [] w).map .str) (ri_e (fun _ _ => rfl) (re_met (re_var hv) rfl rfl (fun _ => by simp) (split_str (c := 44) (by decide) (by unfold LINE; omega))) rfl) rfl hs
    (fun x hx k => by
      obtain ⟨q, hq, rfl⟩ := List.mem_map.mp hx
      have := spl_len q hq
      exact re_call (res_cons (re_var (by rw [List.getElem?_set_self hs])) (res_cons (re_bop rfl rfl pow12) (res_cons rfl res_nil))) rfl (lnum_true d q S (by omega))) (by omega) (by unfold LINE; omega)
  rw [List.map_map] at h
  exact h
theorem rd_a (hw : bad1 w) (hl : acc.length < LINE) (hT : isNon (partS 97 w) = true → r = .ok .non (S0 ++ [.lst acc]))
    (hF : isNon (partS 97 w) = false → ∀ e8', k [some x, some W, some Fm, some fm, some (.ref S0.length), some (.str [97]), some (.str w), some (partS 97 w), e8', e9, e10, e11] (S0 ++ [.lst (acc ++ [partS 97 w])]) = r) :
    thenR (evSs ⟨callD G (d + 1), lamD G (d + 1), G.sub, fun _ => .bad, none⟩ (n + 4000) rdB [some x, some W, some Fm, some fm, some (.ref S0.length), some (.str [97]), some (.str w), e7, e8, e9, e10, e11] (S0 ++ [.lst acc])) k = r := by
  have hp : partS 97 w = argsS w := by
    unfold partS
    rw [if_neg (by decide), if_neg (by decide)]
  have hw1 := hw.1
  rw [hp] at hT hF
  have ho := (argsS_ok w).1
  unfold rdB
  refine w_asg (S1 := S0 ++ [.lst acc]) (d := countS w) (re_iteF rfl (re_call rfl rfl (lnum_false d w _ (by omega)))) rfl (w_iffF (S1 := S0 ++ [.lst acc]) (rt_andF rfl) (w_nil (w_iffT (S1 := S0 ++ [.lst acc]) rfl
    (w_asg (S1 := S0 ++ [.lst acc]) (d := .lst (argA w)) (re_ite2 (q := !decide (w = [46])) (rt_bl (fun _ _ => rfl) (re_cmp rfl rfl rfl)) (fun hq => ?_) (fun hq => ?_)) rfl
    (w_asg (S1 := S0 ++ [.lst acc]) (d := argsS w) (re_ite2 (q := !(argA w).any isNon && decide (((argA w).length : Int) < 7)) (rt_and (rt_bl (fun _ _ => rfl) (re_cmp rfl rfl (congrArg notO (in_flat (argA_flat w))))) (fun _ => rt_bl (fun _ _ => rfl) (re_cmp rfl rfl rfl))) (fun hq => by rw [← argA_eq, hq]; rfl) (fun hq => by rw [← argA_eq, hq]; rfl)) rfl (w_nil
    (w_if (S1 := S0 ++ [.lst acc]) (q := isNon (argsS w)) (rt_bl (fun _ _ => rfl) (re_cmp (x := argsS w) (S1 := S0 ++ [.lst acc]) rfl rfl (by rw [look_ok ho]; rfl))) (fun hq => ?_) (fun hq => ?_))))))))
  · have hq : ¬ w = [46] := by simpa using hq
    refine (num_list2 hw1 (Nat.le_of_ble_eq_true rfl) rfl (by omega)).trans ?_
    unfold argA
    rw [if_neg hq]
  · have hq : w = [46] := by simpa using hq
    subst hq
    rfl
  · rw [hT hq]
    exact w_ret rfl
  · exact w_expr (re_mets rfl rfl rfl (app_ok hl)) (w_nil (hF hq _))
theorem rd_any {kd : Nat} (hkd : kd = 110 ∨ kd = 99 ∨ kd = 97) (hw : bad1 w) (hl : acc.length < LINE) (hT : isNon (partS kd w) = true → r = .ok .non (S0 ++ [.lst acc]))
    (hF : isNon (partS kd w) = false → ∀ e8', k [some x, some W, some Fm, some fm, some (.ref S0.length), some (.str [kd]), some (.str w), some (partS kd w), e8', e9, e10, e11] (S0 ++ [.lst (acc ++ [partS kd w])]) = r) :
    thenR (evSs ⟨callD G (d + 1), lamD G (d + 1), G.sub, fun _ => .bad, none⟩ (n + 4000) rdB [some x, some W, some Fm, some fm, some (.ref S0.length), some (.str [kd]), some (.str w), e7, e8, e9, e10, e11] (S0 ++ [.lst acc])) k = r := by
  rcases hkd with rfl | rfl | rfl
  · exact rd_n hw hl hT hF
  · exact rd_c hw hl hT hF
  · exact rd_a hw hl hT hF
end
def preL (ps : List D) : List D := ps.takeWhile fun y => !isNon y
theorem read_loop (d : Nat) {S0 : Sto} {x W Fm fm : D} {k : EnvD → Sto → R D}
    (hk : ∀ acc e5 e6 e7 e8 e9 e10 e11, k [some x, some W, some Fm, some fm, some (.ref S0.length), e5, e6, e7, e8, e9, e10, e11] (S0 ++ [.lst acc]) = .ok (.tup acc) (S0 ++ [.lst acc])) :
    ∀ (f : List Nat) (r : List (List Nat)) (acc : List D) (n i : Nat) (e5 e6 e7 e8 e9 e10 e11 : Option D), (∀ c ∈ f, c = 110 ∨ c = 99 ∨ c = 97) → (∀ w ∈ r, bad1 w) → acc.length + f.length ≤ 1000 →
      thenR (evF ⟨callD G (d + 1), lamD G (d + 1), G.sub, fun _ => .bad, none⟩ (n + 5000 + f.length) (.tup [.nm 5, .nm 6]) rdB (.fix (zipD (f.map fun c => D.str [c]) (r.map D.str))) i [some x, some W, some Fm, some fm, some (.ref S0.length), e5, e6, e7, e8, e9, e10, e11] (S0 ++ [.lst acc])) k
        = .ok (if (zipP f r).any isNon = true then .non else .tup (acc ++ zipP f r)) (S0 ++ [.lst (acc ++ preL (zipP f r))]) := by
  intro f
  induction f with
  | nil =>
    intro r acc n i e5 e6 e7 e8 e9 e10 e11 _ _ _
    have h1 : acc ++ zipP [] r = acc := List.append_nil _
    have h2 : acc ++ preL (zipP [] r) = acc := List.append_nil _
    rw [h1, h2]
    exact w_fnil (hk acc ..)
  | cons c f ih =>
    intro r acc n i e5 e6 e7 e8 e9 e10 e11 hf hr hl
    cases r with
    | nil =>
      have h1 : acc ++ zipP (c :: f) [] = acc := List.append_nil _
      have h2 : acc ++ preL (zipP (c :: f) []) = acc := List.append_nil _
      rw [h1, h2]
      exact w_fnil (hk acc ..)
    | cons w r =>
      rw [List.length_cons] at hl
      have ih := fun e5 e6 e7 e8 e9 e10 e11 => ih r (acc ++ [partS c w]) n (i + 1) e5 e6 e7 e8 e9 e10 e11 (fun c hc => hf c (List.mem_cons_of_mem _ hc)) (fun w hw => hr w (List.mem_cons_of_mem _ hw)) (by rw [List.length_append, List.length_singleton]; omega)
      have hm : 5000 ≤ n + 5000 + f.length := by omega
      show thenR (evF _ (n + 5000 + f.length + 1) (.tup [.nm 5, .nm 6]) rdB (.fix (.tup [.str [c], .str w] :: zipD (f.map fun c => D.str [c]) (r.map D.str))) i _ _) k = _
      revert ih hm
      generalize n + 5000 + f.length = m
      intro ih hm
      obtain ⟨m, rfl⟩ : ∃ m', m = m' + 4000 := ⟨m - 4000, by omega⟩
      have hz : zipP (c :: f) (w :: r) = partS c w :: zipP f r := rfl
      rw [hz, List.any_cons]
      cases hp : isNon (partS c w) with
      | true =>
        have h2 : preL (partS c w :: zipP f r) = [] := by
          unfold preL
          rw [List.takeWhile_cons_of_neg (by rw [hp]; simp)]
        rw [h2, List.append_nil]
        exact w_fcons rfl (rd_any (hf c (List.mem_cons_self ..)) (hr w (List.mem_cons_self ..)) (by unfold LINE; omega) (fun _ => rfl) (fun z => by rw [hp] at z; cases z))
      | false =>
        have h2 : preL (partS c w :: zipP f r) = partS c w :: preL (zipP f r) := by
          unfold preL
          rw [List.takeWhile_cons_of_pos (by rw [hp]; rfl)]
        rw [h2, Bool.false_or]
        refine w_fcons rfl (rd_any (hf c (List.mem_cons_self ..)) (hr w (List.mem_cons_self ..)) (by unfold LINE; omega) (fun z => by rw [hp] at z; cases z) (fun _ e8' => ?_))
        refine (ih _ _ _ _ _ _ _).trans ?_
        rw [List.append_assoc, List.append_assoc]
        rfl
end Ev.K95
set_option Elab.async false
set_option linter.all false
set_option autoImplicit false
set_option maxRecDepth 100000
set_option maxHeartbeats 4000000
/-! K95u: the plain law of k95: the law reads as read_command does. -/
namespace Ev.K95
open PySem PySem.Spec PyProof.Rows L2 TL Ev Ev.Ru NumText
def SNG : List (List Nat) := [[115, 121, 110, 99], [105, 109, 97, 103, 101], [99, 117, 116], [99, 108, 101, 97, 110], [102, 111, 114, 103, 101, 116]]
def LKS : List (List Nat) := [[111, 112, 101, 110], [97, 115, 107], [98, 101, 97, 116], [99, 111, 109, 109, 105, 116], [108, 101, 97, 118, 101], [99, 111, 112, 121], [112, 117, 108, 108]]
def LVS : List (List Nat) := [[110, 110, 97], [110, 110, 97], [110, 99], [110], [110], [110], [110]]
def crash : List Nat := [99, 114, 97, 115, 104]
def lookLS (w : List Nat) : Option (List Nat) := ((LKS.zip LVS).find? fun p => decide (p.1 = w)).map (·.2)
theorem look_gen (w : List Nat) : ∀ (ks : List (List Nat)) (vs : List (List Nat)), ((((ks.map D.str).zip (vs.map D.str)).find? fun p => keyIsD p.1 (.str w)).map (·.2)) = ((((ks.zip vs).find? fun p => decide (p.1 = w)).map (·.2))).map D.str
  | [], _ => rfl
  | _ :: _, [] => rfl
  | k :: ks, v :: vs => by
    have ih := look_gen w ks vs
    show (((D.str k, D.str v) :: (ks.map D.str).zip (vs.map D.str)).find? fun p => keyIsD p.1 (.str w)).map (·.2) = (((((k, v) :: ks.zip vs).find? fun p => decide (p.1 = w)).map (·.2))).map D.str
    by_cases h : k = w
    · rw [List.find?_cons_of_pos (by exact decide_eq_true h), List.find?_cons_of_pos (by exact decide_eq_true h)]
      rfl
    · rw [List.find?_cons_of_neg (by exact fun z => h (of_decide_eq_true z)), List.find?_cons_of_neg (by exact fun z => h (of_decide_eq_true z))]
      exact ih
theorem get_look {w : List Nat} {y : D} (hy : notL y = true) : metD .get (.dic (LKS.map .str) (LVS.map .str)) [.str w, y] = some (((lookLS w).map D.str).getD y) := by
  show (if notL y = true then some (((((LKS.map D.str).zip (LVS.map D.str)).find? fun p => keyIsD p.1 (.str w)).map (·.2)).getD y) else none) = _
  rw [if_pos hy, look_gen w LKS LVS]
  rfl
def sngS (w : List Nat) : Bool := (SNG.map D.str).any fun y => feqD y (.str w)
theorem classify (w : List Nat) : (sngS w = true ∧ formsS w = [[]]) ∨ (sngS w = false ∧ w ≠ crash ∧ ∃ f, lookLS w = some f ∧ formsS w = [f]) ∨ w = crash ∨ (sngS w = false ∧ w ≠ crash ∧ lookLS w = none ∧ formsS w = []) := by
  by_cases h : w ∈ FKS
  · have : ∀ w ∈ FKS, (sngS w = true ∧ formsS w = [[]]) ∨ (sngS w = false ∧ w ≠ crash ∧ (lookLS w).isSome = true ∧ formsS w = [(lookLS w).getD []]) ∨ w = crash := by decide
    rcases this w h with h | ⟨h1, h2, h3, h4⟩ | h
    · exact .inl h
    · obtain ⟨f, e⟩ := Option.isSome_iff_exists.mp h3
      rw [e] at h4
      exact .inr (.inl ⟨h1, h2, f, e, h4⟩)
    · exact .inr (.inr (.inl h))
  · have hn : ∀ k ∈ FKS, ¬ k = w := fun k hk z => h (z ▸ hk)
    refine .inr (.inr (.inr ⟨?_, fun z => hn crash (by decide) z.symm, ?_, ?_⟩))
    · unfold sngS
      rw [List.any_eq_false]
      intro y hy
      obtain ⟨k, hk, rfl⟩ := List.mem_map.mp hy
      have : ∀ k ∈ SNG, k ∈ FKS := by decide
      show ¬ decide (k = w) = true
      rw [decide_eq_false (hn k (this k hk))]
      decide
    · unfold lookLS
      rw [List.find?_eq_none.mpr]
      · rfl
      · intro p hp
        have : ∀ p ∈ LKS.zip LVS, p.1 ∈ FKS := by decide
        exact fun z => hn p.1 (this p hp) (of_decide_eq_true z)
    · unfold formsS
      rw [List.find?_eq_none.mpr]
      · rfl
      · intro p hp
        have : ∀ p ∈ FKS.zip FVS, p.1 ∈ FKS := by decide
        exact fun z => hn p.1 (this p hp) (of_decide_eq_true z)
theorem words_cons (w0 : List Nat) (r : List (List Nat)) : wordsS (w0 :: r) = match formS w0 r.length with
  | none => .non
  | some f => resS w0 (zipP f r) := rfl
def rest4 : List Sm := [.iff (.or_ (.cmp .Is (.var 3) (.cst (.non))) (.cmp .NotEq (.bif .len [(.var 1)]) (.bop .Add (.bif .len [(.var 3)]) (.cst (.int (1)))))) [.ret (.cst (.non))] [], .asg (.nm 4) (.new (.lst [(.sub (.var 1) (.cst (.int (0))))])), .for_ (.tup [.nm 5, .nm 6]) (.zip (.var 3) (.slc (.var 1) (.cst (.int (1))) (.cst (.non)))) [.asg (.nm 7) (.ife (.cmp .Eq (.var 5) (.cst (.str [110]))) (.var 6) (.call 25 [(.var 6), (.cst (.int (999999999))), (.cst (.bl false))] [])), .iff (.and_ (.cmp .Eq (.var 5) (.cst (.str [110]))) (.or_ (.not_ (.cmp2 .LtE .LtE (.cst (.int (1))) (.bif .len [(.var 6)]) (.cst (.int (8))))) (.or_ (.not_ (.bif .all [(.lc (.cmp2 .LtE .LtE (.cst (.str [97])) (.var 9) (.cst (.str [122]))) (.nm 9) (.var 6) [] [9])])) (.cmp .In (.var 6) (.call 21 [] []))))) [.ret (.cst (.non))] [], .iff (.cmp .Eq (.var 5) (.cst (.str [97]))) [.asg (.nm 8) (.ife (.cmp .NotEq (.var 6) (.cst (.str [46]))) (.lc (.call 25 [(.var 10), (.bop .Pow (.cst (.int (10))) (.cst (.int (12)))), (.cst (.bl true))] []) (.nm 10) (.met .split (.var 6) [(.cst (.str [44]))]) [] [10]) (.lst [])), .asg (.nm 7) (.ife (.and_ (.cmp .NotIn (.cst (.non)) (.var 8)) (.cmp .Lt (.bif .len [(.var 8)]) (.cst (.int (7))))) (.bif .tuple [(.var 8)]) (.cst (.non)))] [], .iff (.cmp .Is (.var 7) (.cst (.non))) [.ret (.cst (.non))] [], .expr (.met .append (.var 4) [(.var 7)])], .ret (.bif .tuple [(.var 4)])]
theorem rest4_ok (d : Nat) {S : Sto} {n : Nat} {x Fm : D} {w0 : List Nat} {r : List (List Nat)} {f : List Nat} {k : EnvD → Sto → R D} (hr : ∀ w ∈ r, bad1 w) (hf : f.length ≤ 4) (hfc : ∀ c ∈ f, c = 110 ∨ c = 99 ∨ c = 97) :
    ∃ T, thenR (evSs ⟨callD G (d + 1), lamD G (d + 1), G.sub, fun _ => .bad, none⟩ (n + 6000) rest4 [some x, some (.lst (.str w0 :: r.map .str)), some Fm, some (.str f), none, none, none, none, none, none, none, none] S) k
      = .ok (if r.length = f.length then resS w0 (zipP f r) else .non) (S ++ T) := by
  unfold rest4
  by_cases h : r.length = f.length
  · rw [if_pos h]
    have hc : (some (D.bl (!((((D.str w0 :: r.map D.str).length : Nat) : Int) == ((f.length : Nat) : Int) + 1))) : Option D) = some (.bl false) := by
      simp [h]
    have hz := zipP_len f r
    obtain ⟨m, hm⟩ : ∃ m, n + 5996 = m + 5000 + f.length := ⟨n + 996 - f.length, by omega⟩
    have L := read_loop d (S0 := S) (x := x) (W := .lst (.str w0 :: r.map .str)) (Fm := Fm) (fm := .str f) (k := fun env S => thenR (evSs ⟨callD G (d + 1), lamD G (d + 1), G.sub, fun _ => .bad, none⟩ (n + 5997) [.ret (.bif .tuple [(.var 4)])] env S) k) (fun acc e5 e6 e7 e8 e9 e10 e11 => w_ret (re_bif (res_cons rfl res_nil) (by
      have e : (S ++ [SO.lst acc])[S.length]? = some (.lst acc) := by simp
      show bifD .tuple [D.look (.ref S.length) _] = _
      unfold D.look
      simp only [e]
      rfl))) f r [.str w0] m 0 none none none none none none none hfc hr (by rw [List.length_singleton]; omega)
    rw [← hm] at L
    refine ⟨[.lst ([.str w0] ++ preL (zipP f r))], ?_⟩
    refine w_iffF (S1 := S) (rt_orF rfl (rt_bl (fun _ _ => rfl) (re_cmp rfl rfl hc))) (w_nil (w_asg (S1 := S ++ [SO.lst [D.str w0]]) (d := .ref S.length) (re_new (re_lst (res_cons (re_sub (x := .lst (.str w0 :: r.map .str)) rfl rfl (sub0l _ _)) res_nil))) rfl (w_for (S1 := S ++ [SO.lst [D.str w0]]) (ri_zip rfl (re_slc rfl rfl rfl rfl rfl (congrArg (fun l => some (D.lst l)) (cut1l (.str w0) (r.map .str)))) rfl rfl) (L.trans ?_))))
    unfold resS
    rfl
  · rw [if_neg h]
    have hc : (some (D.bl (!((((D.str w0 :: r.map D.str).length : Nat) : Int) == ((f.length : Nat) : Int) + 1))) : Option D) = some (.bl true) := by
      have : ¬ ((r.length : Int) = f.length) := by omega
      simp [h, this]
    refine ⟨[], ?_⟩
    rw [List.append_nil]
    exact w_iffT (S1 := S) (rt_orF rfl (rt_bl (fun _ _ => rfl) (re_cmp rfl rfl hc))) (w_ret rfl)
theorem rest4_non (d : Nat) {S : Sto} {n : Nat} {x W Fm : D} {k : EnvD → Sto → R D} :
    thenR (evSs ⟨callD G (d + 1), lamD G (d + 1), G.sub, fun _ => .bad, none⟩ (n + 6000) rest4 [some x, some W, some Fm, some .non, none, none, none, none, none, none, none, none] S) k = .ok .non S := by
  unfold rest4
  exact w_iffT (S1 := S) (rt_orT rfl) (w_ret rfl)
def rest2 : List Sm := [.iff (.cmp .In (.sub (.var 1) (.cst (.int (0)))) (.tup [(.cst (.str [115, 121, 110, 99])), (.cst (.str [105, 109, 97, 103, 101])), (.cst (.str [99, 117, 116])), (.cst (.str [99, 108, 101, 97, 110])), (.cst (.str [102, 111, 114, 103, 101, 116]))])) [.ret (.ife (.cmp .Eq (.bif .len [(.var 1)]) (.cst (.int (1)))) (.tup [(.var 0)]) (.cst (.non)))] [], .asg (.nm 3) (.met .get (.var 2) [(.sub (.var 1) (.cst (.int (0)))), (.ife (.and_ (.cmp .Eq (.sub (.var 1) (.cst (.int (0)))) (.cst (.str [99, 114, 97, 115, 104]))) (.cmp .In (.bif .len [(.var 1)]) (.tup [(.cst (.int (3))), (.cst (.int (5)))]))) (.bop .Mult (.cst (.str [99])) (.bop .Sub (.bif .len [(.var 1)]) (.cst (.int (1))))) (.cst (.non)))]), .iff (.or_ (.cmp .Is (.var 3) (.cst (.non))) (.cmp .NotEq (.bif .len [(.var 1)]) (.bop .Add (.bif .len [(.var 3)]) (.cst (.int (1)))))) [.ret (.cst (.non))] [], .asg (.nm 4) (.new (.lst [(.sub (.var 1) (.cst (.int (0))))])), .for_ (.tup [.nm 5, .nm 6]) (.zip (.var 3) (.slc (.var 1) (.cst (.int (1))) (.cst (.non)))) [.asg (.nm 7) (.ife (.cmp .Eq (.var 5) (.cst (.str [110]))) (.var 6) (.call 25 [(.var 6), (.cst (.int (999999999))), (.cst (.bl false))] [])), .iff (.and_ (.cmp .Eq (.var 5) (.cst (.str [110]))) (.or_ (.not_ (.cmp2 .LtE .LtE (.cst (.int (1))) (.bif .len [(.var 6)]) (.cst (.int (8))))) (.or_ (.not_ (.bif .all [(.lc (.cmp2 .LtE .LtE (.cst (.str [97])) (.var 9) (.cst (.str [122]))) (.nm 9) (.var 6) [] [9])])) (.cmp .In (.var 6) (.call 21 [] []))))) [.ret (.cst (.non))] [], .iff (.cmp .Eq (.var 5) (.cst (.str [97]))) [.asg (.nm 8) (.ife (.cmp .NotEq (.var 6) (.cst (.str [46]))) (.lc (.call 25 [(.var 10), (.bop .Pow (.cst (.int (10))) (.cst (.int (12)))), (.cst (.bl true))] []) (.nm 10) (.met .split (.var 6) [(.cst (.str [44]))]) [] [10]) (.lst [])), .asg (.nm 7) (.ife (.and_ (.cmp .NotIn (.cst (.non)) (.var 8)) (.cmp .Lt (.bif .len [(.var 8)]) (.cst (.int (7))))) (.bif .tuple [(.var 8)]) (.cst (.non)))] [], .iff (.cmp .Is (.var 7) (.cst (.non))) [.ret (.cst (.non))] [], .expr (.met .append (.var 4) [(.var 7)])], .ret (.bif .tuple [(.var 4)])]
def FmD : D := .dic (LKS.map .str) (LVS.map .str)
theorem crash_no (d : Nat) {S : Sto} {x : List Nat} {r : List (List Nat)} {k : EnvD → Sto → R D}
    (hin : evT ⟨callD G (d + 1), lamD G (d + 1), G.sub, fun _ => .bad, none⟩ 899996 (.cmp .In (.sub (.var 1) (.cst (.int (0)))) (.tup [(.cst (.str [115, 121, 110, 99])), (.cst (.str [105, 109, 97, 103, 101])), (.cst (.str [99, 117, 116])), (.cst (.str [99, 108, 101, 97, 110])), (.cst (.str [102, 111, 114, 103, 101, 116]))])) [some (.str x), some (.lst (.str crash :: r.map .str)), some FmD, none, none, none, none, none, none, none, none, none] S = .ok false S)
    (hlen : evE ⟨callD G (d + 1), lamD G (d + 1), G.sub, fun _ => .bad, none⟩ 899989 (.bif .len [(.var 1)]) [some (.str x), some (.lst (.str crash :: r.map .str)), some FmD, none, none, none, none, none, none, none, none, none] S = .ok (.int ((r.length : Nat) + 1)) S)
    (h2 : r.length ≠ 2) (h4 : r.length ≠ 4) :
    ∃ T, thenR (evSs ⟨callD G (d + 1), lamD G (d + 1), G.sub, fun _ => .bad, none⟩ 899998 rest2 [some (.str x), some (.lst (.str crash :: r.map .str)), some FmD, none, none, none, none, none, none, none, none, none] S) k
      = .ok (wordsS (crash :: r)) (S ++ T) := by
  refine ⟨[], ?_⟩
  rw [List.append_nil]
  unfold rest2
  have hq : (some (D.bl (((3 : Int) == (((r.length : Nat) : Int) + 1)) || (((5 : Int) == (((r.length : Nat) : Int) + 1)) || false))) : Option D) = some (.bl false) := by
    have a2 : ¬ (3 = (r.length : Int) + 1) := by omega
    have a4 : ¬ (5 = (r.length : Int) + 1) := by omega
    simp [a2, a4]
  have hcr : evE ⟨callD G (d + 1), lamD G (d + 1), G.sub, fun _ => .bad, none⟩ 899992 (.ife (.and_ (.cmp .Eq (.sub (.var 1) (.cst (.int (0)))) (.cst (.str [99, 114, 97, 115, 104]))) (.cmp .In (.bif .len [(.var 1)]) (.tup [(.cst (.int (3))), (.cst (.int (5)))]))) (.bop .Mult (.cst (.str [99])) (.bop .Sub (.bif .len [(.var 1)]) (.cst (.int (1))))) (.cst (.non))) [some (.str x), some (.lst (.str crash :: r.map .str)), some FmD, none, none, none, none, none, none, none, none, none] S = .ok .non S :=
    re_iteF (S1 := S) (rt_andT (S1 := S) (rt_bl (fun _ _ => rfl) (re_cmp (x := .str crash) (S1 := S) (re_sub (x := .lst (.str crash :: r.map .str)) rfl rfl (sub0l _ _)) rfl rfl)) (rt_bl (fun _ _ => rfl) (re_cmp (x := .int ((r.length : Nat) + 1)) (S1 := S) hlen rfl hq))) rfl
  refine w_iffF (S1 := S) hin (w_nil (w_asg (S1 := S) (d := .non) (re_met (x := FmD) rfl rfl (res_cons (re_sub (x := .lst (.str crash :: r.map .str)) rfl rfl (sub0l _ _)) (res_cons hcr res_nil)) (fun _ => by unfold FmD; simp) ((get_look rfl).trans rfl)) rfl ((rest4_non d (n := 893996)).trans ?_)))
  congr 1
  have : formS crash r.length = none := by
    unfold formS
    have e : formsS crash = [[99, 99], [99, 99, 99, 99]] := rfl
    rw [e]
    simp [h2, h4]
  rw [words_cons, this]
theorem rest2_ok (d : Nat) {S : Sto} {x : List Nat} {w0 : List Nat} {r : List (List Nat)} {k : EnvD → Sto → R D} (hr : ∀ w ∈ r, bad1 w) (hx : r = [] → w0 = x) :
    ∃ T, thenR (evSs ⟨callD G (d + 1), lamD G (d + 1), G.sub, fun _ => .bad, none⟩ 899998 rest2 [some (.str x), some (.lst (.str w0 :: r.map .str)), some FmD, none, none, none, none, none, none, none, none, none] S) k
      = .ok (wordsS (w0 :: r)) (S ++ T) := by
  have hin : evT ⟨callD G (d + 1), lamD G (d + 1), G.sub, fun _ => .bad, none⟩ 899996 (.cmp .In (.sub (.var 1) (.cst (.int (0)))) (.tup [(.cst (.str [115, 121, 110, 99])), (.cst (.str [105, 109, 97, 103, 101])), (.cst (.str [99, 117, 116])), (.cst (.str [99, 108, 101, 97, 110])), (.cst (.str [102, 111, 114, 103, 101, 116]))])) [some (.str x), some (.lst (.str w0 :: r.map .str)), some FmD, none, none, none, none, none, none, none, none, none] S = .ok (sngS w0) S :=
    rt_bl (fun _ _ => rfl) (re_cmp (x := .str w0) (re_sub (x := .lst (.str w0 :: r.map .str)) rfl rfl (sub0l _ _)) rfl rfl)
  rcases classify w0 with ⟨h1, h2⟩ | ⟨h1, h2, f, h3, h4⟩ | h1 | ⟨h1, h2, h3, h4⟩
  · rw [h1] at hin
    refine ⟨[], ?_⟩
    rw [List.append_nil]
    unfold rest2
    refine w_iffT (S1 := S) hin (w_ret ?_)
    cases r with
    | nil =>
      have e : wordsS [w0] = .tup [.str x] := by
        rw [words_cons]
        unfold formS
        rw [h2, ← hx rfl]
        rfl
      rw [e]
      rfl
    | cons w r =>
      have e : wordsS (w0 :: w :: r) = .non := by
        rw [words_cons]
        unfold formS
        rw [h2]
        rfl
      rw [e]
      have hc : (some (D.bl ((((D.str w0 :: (w :: r).map D.str).length : Nat) : Int) == 1)) : Option D) = some (.bl false) := by
        have : ¬ ((r.length : Int) + 1 + 1 = 1) := by omega
        simp [this]
      exact re_iteF (S1 := S) (rt_bl (fun _ _ => rfl) (re_cmp rfl rfl hc)) rfl
  · rw [h1] at hin
    have hf := forms_chars w0 f (by rw [h4]; exact List.mem_singleton.mpr rfl)
    obtain ⟨T, h⟩ := rest4_ok d (S := S) (n := 893996) (x := .str x) (Fm := FmD) (w0 := w0) (r := r) (f := f) (k := k) hr hf.1 hf.2
    refine ⟨T, ?_⟩
    unfold rest2
    have hcr : evE ⟨callD G (d + 1), lamD G (d + 1), G.sub, fun _ => .bad, none⟩ 899992 (.ife (.and_ (.cmp .Eq (.sub (.var 1) (.cst (.int (0)))) (.cst (.str [99, 114, 97, 115, 104]))) (.cmp .In (.bif .len [(.var 1)]) (.tup [(.cst (.int (3))), (.cst (.int (5)))]))) (.bop .Mult (.cst (.str [99])) (.bop .Sub (.bif .len [(.var 1)]) (.cst (.int (1))))) (.cst (.non))) [some (.str x), some (.lst (.str w0 :: r.map .str)), some FmD, none, none, none, none, none, none, none, none, none] S = .ok .non S :=
      re_iteF (S1 := S) (rt_andF (rt_bl (fun _ _ => rfl) (re_cmp (x := .str w0) (S1 := S) (re_sub (x := .lst (.str w0 :: r.map .str)) rfl rfl (sub0l _ _)) rfl (congrArg (fun q => some (D.bl q)) (decide_eq_false h2))))) rfl
    refine w_iffF (S1 := S) hin (w_nil (w_asg (S1 := S) (d := .str f) (re_met (x := FmD) rfl rfl (res_cons (re_sub (x := .lst (.str w0 :: r.map .str)) rfl rfl (sub0l _ _)) (res_cons hcr res_nil)) (fun _ => by unfold FmD; simp) ((get_look rfl).trans (by rw [h3]; rfl))) rfl (h.trans ?_)))
    congr 1
    rw [words_cons]
    unfold formS
    rw [h4]
    by_cases e : r.length = f.length
    · rw [if_pos e, List.find?_cons_of_pos (by exact decide_eq_true e)]
    · rw [if_neg e, List.find?_cons_of_neg (by exact fun z => e (of_decide_eq_true z))]
      rfl
  · subst h1
    have hin : evT ⟨callD G (d + 1), lamD G (d + 1), G.sub, fun _ => .bad, none⟩ 899996 (.cmp .In (.sub (.var 1) (.cst (.int (0)))) (.tup [(.cst (.str [115, 121, 110, 99])), (.cst (.str [105, 109, 97, 103, 101])), (.cst (.str [99, 117, 116])), (.cst (.str [99, 108, 101, 97, 110])), (.cst (.str [102, 111, 114, 103, 101, 116]))])) [some (.str x), some (.lst (.str crash :: r.map .str)), some FmD, none, none, none, none, none, none, none, none, none] S = .ok false S := hin
    have hlen : evE ⟨callD G (d + 1), lamD G (d + 1), G.sub, fun _ => .bad, none⟩ 899989 (.bif .len [(.var 1)]) [some (.str x), some (.lst (.str crash :: r.map .str)), some FmD, none, none, none, none, none, none, none, none, none] S = .ok (.int ((r.length : Nat) + 1)) S :=
      re_bif (S1 := S) (ds := [.lst (.str crash :: r.map .str)]) rfl (by
        show some (D.int (((D.str crash :: r.map D.str).length : Nat) : Int)) = _
        simp)
    match r, hr, hx, hin, hlen with
    | [a, b], hr, hx, hin, hlen =>
      obtain ⟨T, h⟩ := rest4_ok d (S := S) (n := 893996) (x := .str x) (Fm := FmD) (w0 := crash) (r := [a, b]) (f := [99, 99]) (k := k) hr (by decide) (by decide)
      refine ⟨T, ?_⟩
      unfold rest2
      exact w_iffF (S1 := S) hin (w_nil (w_asg (S1 := S) (d := .str [99, 99]) (re_met (x := FmD) rfl rfl (res_cons (re_sub (x := .lst (.str crash :: [a, b].map .str)) rfl rfl (sub0l _ _)) (res_cons (d := .str [99, 99]) rfl res_nil)) (fun _ => by unfold FmD; simp) ((get_look rfl).trans rfl)) rfl h))
    | [a, b, c, e], hr, hx, hin, hlen =>
      obtain ⟨T, h⟩ := rest4_ok d (S := S) (n := 893996) (x := .str x) (Fm := FmD) (w0 := crash) (r := [a, b, c, e]) (f := [99, 99, 99, 99]) (k := k) hr (by decide) (by decide)
      refine ⟨T, ?_⟩
      unfold rest2
      exact w_iffF (S1 := S) hin (w_nil (w_asg (S1 := S) (d := .str [99, 99, 99, 99]) (re_met (x := FmD) rfl rfl (res_cons (re_sub (x := .lst (.str crash :: [a, b, c, e].map .str)) rfl rfl (sub0l _ _)) (res_cons (d := .str [99, 99, 99, 99]) rfl res_nil)) (fun _ => by unfold FmD; simp) ((get_look rfl).trans rfl)) rfl h))
    | [], hr, hx, hin, hlen => exact crash_no d hin hlen (by simp) (by simp)
    | [_], hr, hx, hin, hlen => exact crash_no d hin hlen (by simp) (by simp)
    | [_, _, _], hr, hx, hin, hlen => exact crash_no d hin hlen (by simp) (by simp)
    | _ :: _ :: _ :: _ :: _ :: r', hr, hx, hin, hlen => exact crash_no d hin hlen (by simp only [List.length_cons]; omega) (by simp only [List.length_cons]; omega)
  · rw [h1] at hin
    refine ⟨[], ?_⟩
    rw [List.append_nil]
    unfold rest2
    have hcr : evE ⟨callD G (d + 1), lamD G (d + 1), G.sub, fun _ => .bad, none⟩ 899992 (.ife (.and_ (.cmp .Eq (.sub (.var 1) (.cst (.int (0)))) (.cst (.str [99, 114, 97, 115, 104]))) (.cmp .In (.bif .len [(.var 1)]) (.tup [(.cst (.int (3))), (.cst (.int (5)))]))) (.bop .Mult (.cst (.str [99])) (.bop .Sub (.bif .len [(.var 1)]) (.cst (.int (1))))) (.cst (.non))) [some (.str x), some (.lst (.str w0 :: r.map .str)), some FmD, none, none, none, none, none, none, none, none, none] S = .ok .non S :=
      re_iteF (S1 := S) (rt_andF (rt_bl (fun _ _ => rfl) (re_cmp (x := .str w0) (S1 := S) (re_sub (x := .lst (.str w0 :: r.map .str)) rfl rfl (sub0l _ _)) rfl (congrArg (fun q => some (D.bl q)) (decide_eq_false h2))))) rfl
    refine w_iffF (S1 := S) hin (w_nil (w_asg (S1 := S) (d := .non) (re_met (x := FmD) rfl rfl (res_cons (re_sub (x := .lst (.str w0 :: r.map .str)) rfl rfl (sub0l _ _)) (res_cons hcr res_nil)) (fun _ => by unfold FmD; simp) ((get_look rfl).trans (by rw [h3]; rfl))) rfl ((rest4_non d (n := 893996)).trans ?_)))
    congr 1
    rw [words_cons]
    unfold formS
    rw [h4]
    rfl
theorem law_read_str (d : Nat) (x : List Nat) (S : Sto) (hx : bad1 x) : ∃ T, callD G (d + 2) 26 [.str x] S = .ok (parseS x) (S ++ T) := by
  cases hd : isDeed x with
  | true =>
    refine ⟨[], ?_⟩
    rw [List.append_nil]
    unfold parseS
    rw [hd]
    exact call_w (df := f26) rfl rfl (w_iffT (S1 := S) (rt_bl (fun _ _ => rfl) (re_cmp (re_slc rfl rfl rfl rfl rfl rfl) rfl (congrArg (fun q => some (D.bl q)) hd))) (w_ret rfl))
  | false =>
    have hp : parseS x = wordsS (spl [32] 0 [] x) := by
      unfold parseS
      rw [hd]
      rfl
    rw [hp]
    have hs := split_str (c := 32) (w := x) (by decide) (by have := hx.1; unfold LINE; omega)
    have hlen := spl_len (c := 32) (x := x)
    have hch := spl_chars (c := 32) hx.2
    have hone := fun w => spl_one (c := 32) (w := w) x []
    have hcnt := (spl_cnt (c := 32) x []).1
    revert hs hlen hch hone hcnt
    generalize spl [32] 0 [] x = ws
    intro hs hlen hch hone hcnt
    cases ws with
    | nil => cases hcnt
    | cons w0 r =>
      obtain ⟨T, h⟩ := rest2_ok d (S := S) (x := x) (w0 := w0) (r := r) (k := fun _ S => .ok .non S) (fun w hw => ⟨Nat.le_trans (hlen w (List.mem_cons_of_mem _ hw)) hx.1, hch w (List.mem_cons_of_mem _ hw)⟩) (fun e => by
        subst e
        exact (hone w0 rfl).symm)
      exact ⟨T, call_w (df := f26) rfl rfl (w_iffF (S1 := S) (rt_bl (fun _ _ => rfl) (re_cmp (re_slc rfl rfl rfl rfl rfl rfl) rfl (congrArg (fun q => some (D.bl q)) hd))) (w_nil (w_par (S1 := S) (S2 := S) (x := .lst (.str w0 :: r.map .str)) (y := FmD) (re_met rfl rfl rfl (fun _ => by simp) hs) rfl ⟨Nat.le_of_ble_eq_true rfl, Nat.le_of_ble_eq_true rfl⟩ h)))⟩
end Ev.K95
set_option Elab.async false
set_option linter.all false
set_option autoImplicit false
set_option maxRecDepth 100000
set_option maxHeartbeats 4000000
/-! K95v: the plain law of k95: draws. -/
namespace Ev.K95
open PySem PySem.Spec PyProof.Rows L2 TL Ev Ev.Ru NumText
def PotAt (S : Sto) (l : Nat) : Prop := ∃ a b : Int, S[l]? = some (.lst [.int a, .int b])
def Pots (S : Sto) : Prop := PotAt S 0 ∧ PotAt S 1
theorem PotAt.app {S T : Sto} {l : Nat} (h : PotAt S l) : PotAt (S ++ T) l := by
  obtain ⟨a, b, h⟩ := h
  have hl : l < S.length := (List.getElem?_eq_some_iff.mp h).1
  exact ⟨a, b, by rw [List.getElem?_append_left hl, h]⟩
theorem Pots.app {S T : Sto} (h : Pots S) : Pots (S ++ T) := ⟨h.1.app, h.2.app⟩
theorem PotAt.set {S : Sto} {l l' : Nat} {a b : Int} (h : PotAt S l) (h' : PotAt S l') : PotAt (S.set l' (.lst [.int a, .int b])) l := by
  by_cases e : l' = l
  · subst e
    obtain ⟨_, _, h⟩ := h
    have hl := (List.getElem?_eq_some_iff.mp h).1
    exact ⟨a, b, by rw [List.getElem?_set_self hl]⟩
  · obtain ⟨c, d, h⟩ := h
    exact ⟨c, d, by rw [List.getElem?_set_ne e, h]⟩
theorem Pots.set {S : Sto} {l : Nat} {a b : Int} (h : Pots S) (h' : PotAt S l) : Pots (S.set l (.lst [.int a, .int b])) := ⟨h.1.set h', h.2.set h'⟩
theorem Pots.at_ {S : Sto} {l : Nat} (h : Pots S) (hl : l = 0 ∨ l = 1) : PotAt S l := by
  rcases hl with rfl | rfl
  · exact h.1
  · exact h.2
theorem pow18 : bopD .Pow (.int 10) (.int 18) = some (.int 1000000000000000000) := by rfl
theorem pot_ok (d : Nat) (ns : List Int) (k : Nat) (hk : k = 0 ∨ k = 1) (hn : ns.length ≤ 63) (S : Sto) : ∃ a b : Int, callD G (d + 1) 16 [.frl (ns.map .int), .int (k : Int)] S = .ok (.ref S.length) (S ++ [.lst [.int a, .int b]]) := by
  have hc : ∃ c : Int, evE ⟨callD G d, lamD G d, G.sub, fun _ => .bad, none⟩ 899998 (.ife (.cmp .Lt (.var 1) (.bif .len [(.var 0)])) (.bif .abs [(.sub (.var 0) (.var 1))]) (.bop .Add (.bop .Mult (.cst (.int (887))) (.var 1)) (.cst (.int (219))))) (f16.start [.frl (ns.map .int), .int (k : Int)]) S = .ok (.int c) S := by
    by_cases h : k < ns.length
    · have e1 : (some (D.bl (decide (((k : Nat) : Int) < ((ns.map D.int).length : Nat)))) : Option D) = some (.bl true) := by
        rw [List.length_map, decide_eq_true (by omega)]
      have e2 : subD (.frl (ns.map D.int)) (.int (k : Int)) = some (.int ns[k]) := by
        show (ixD (ns.map D.int).length (k : Int)).bind (fun j => (ns.map D.int)[j]?) = _
        rw [ix_nat (by rw [List.length_map]; exact h)]
        show (ns.map D.int)[k]? = _
        rw [List.getElem?_map, List.getElem?_eq_getElem h]
        rfl
      exact ⟨_, re_iteT (S1 := S) (rt_bl (fun _ _ => rfl) (re_cmp rfl rfl e1)) (re_bif (res_cons (re_sub rfl rfl e2) res_nil) rfl)⟩
    · have e1 : (some (D.bl (decide (((k : Nat) : Int) < ((ns.map D.int).length : Nat)))) : Option D) = some (.bl false) := by
        rw [List.length_map, decide_eq_false (by omega)]
      have e2 : small64 (k : Int) = true := small_of (by omega) (by omega)
      exact ⟨_, re_iteF (S1 := S) (rt_bl (fun _ _ => rfl) (re_cmp rfl rfl e1)) (re_bop (re_bop rfl rfl (mul_r e2)) rfl rfl)⟩
  obtain ⟨c, hc⟩ := hc
  have e2 : small64 (k : Int) = true := small_of (by omega) (by omega)
  exact ⟨_, _, call_w (df := f16) rfl rfl (w_asg (S1 := S) (d := .int c) hc rfl (w_asg (S1 := S) (re_bop (re_bop (re_bif (res_cons (re_bop (re_bop (re_bop (re_bop (re_bif rfl rfl) rfl rfl) rfl (mul_r rfl)) (re_bop rfl rfl (mul_r e2)) rfl) rfl rfl) res_nil) rfl) rfl rfl) rfl rfl) rfl
    (w_ret (re_new (re_lst (res_cons (re_bif (res_cons rfl (res_cons (re_bop rfl (re_bop rfl rfl pow18) rfl) res_nil)) rfl) (res_cons rfl res_nil)))))))⟩
theorem draw_ok (d l : Nat) (m : Int) (hm : 0 < m) (hm2 : m < 1073741824) (S : Sto) (hp : PotAt S l) : ∃ (g a b : Int), 0 ≤ g ∧ g < m ∧ callD G (d + 1) 17 [.ref l, .int m] S = .ok (.int g) (S.set l (.lst [.int a, .int b])) := by
  obtain ⟨a, b, h⟩ := hp
  have hl := (List.getElem?_eq_some_iff.mp h).1
  have hs0 : ∀ {P : Pg} {n : Nat} {env : EnvD}, env[0]? = some (some (.ref l)) → evE P (n + 2) (.sub (.var 0) (.cst (.int (0)))) env S = .ok (.int a) S := fun hv => re_sub (re_var hv) rfl (by rw [look_ref h]; rfl)
  have hs1 : ∀ {P : Pg} {n : Nat} {env : EnvD}, env[0]? = some (some (.ref l)) → evE P (n + 2) (.sub (.var 0) (.cst (.int (1)))) env S = .ok (.int b) S := fun hv => re_sub (re_var hv) rfl (by rw [look_ref h]; rfl)
  by_cases ha : 0 < a
  · refine ⟨a % m, a / m, b, Int.emod_nonneg _ (by omega), Int.emod_lt_of_pos _ hm, ?_⟩
    have hd : bifD .divmod [.int a, .int m] = some (.tup [.int (a / m), .int (a % m)]) := by
      show (if (decide (0 < m) && decide (m < 1073741824)) = true then _ else _) = _
      rw [decide_eq_true hm, decide_eq_true hm2]
      rfl
    exact call_w (df := f17) rfl rfl (w_iffT (S1 := S) (rt_bl (fun _ _ => rfl) (re_cmp (hs0 rfl) rfl (congrArg (fun q => some (D.bl q)) (decide_eq_true ha)))) (w_asub2 (S1 := S) (S2 := S) (S3 := S) (u := 0) (xs := [.int a, .int b]) (m := 0) (re_bif (res_cons (hs0 rfl) (res_cons rfl res_nil)) hd) rfl rfl h rfl (Nat.le_of_ble_eq_true rfl) (w_ret rfl)))
  · have hb0 : 0 ≤ (b * 40692 + 4909) % 2147483587 := Int.emod_nonneg _ (by decide)
    have hb1 : (b * 40692 + 4909) % 2147483587 < 2147483587 := Int.emod_lt_of_pos _ (by decide)
    generalize hb : (b * 40692 + 4909) % 2147483587 = b' at hb0 hb1
    refine ⟨(b' * b') % 2147483563 / 19 % m, a, b', Int.emod_nonneg _ (by omega), Int.emod_lt_of_pos _ hm, ?_⟩
    have h1 : (S.set l (.lst [.int a, .int b']))[l]? = some (.lst [.int a, .int b']) := by rw [List.getElem?_set_self hl]
    have hs2 : ∀ {P : Pg} {n : Nat} {env : EnvD}, env[0]? = some (some (.ref l)) → evE P (n + 2) (.sub (.var 0) (.cst (.int (1)))) env (S.set l (.lst [.int a, .int b'])) = .ok (.int b') (S.set l (.lst [.int a, .int b'])) := fun hv => re_sub (re_var hv) rfl (by rw [look_ref h1]; rfl)
    have hmod : bopD .Mod (.int (b * 40692 + 4909)) (.int 2147483587) = some (.int b') := by
      rw [← hb]
      rfl
    have hmm : bopD .Mod (.int ((b' * b') % 2147483563 / 19)) (.int m) = some (.int ((b' * b') % 2147483563 / 19 % m)) := by
      show (if decide (0 < m) = true then _ else _) = _
      rw [decide_eq_true hm]
      rfl
    exact call_w (df := f17) rfl rfl (w_iffF (S1 := S) (rt_bl (fun _ _ => rfl) (re_cmp (hs0 rfl) rfl (congrArg (fun q => some (D.bl q)) (decide_eq_false ha)))) (w_nil (w_asub (S1 := S) (S2 := S) (S3 := S) (d := .int b') (u := 1) (xs := [.int a, .int b]) (m := 1) (re_bop (re_bif (res_cons (re_bop (re_bop (hs1 rfl) rfl (mul_r rfl)) rfl rfl) res_nil) rfl) rfl hmod) rfl rfl h rfl
      (w_ret (re_bop (re_bif (res_cons (re_bop (re_bop (re_bif (res_cons (re_bop (hs2 rfl) (hs2 rfl) (mul_r (small_of hb0 (by omega)))) res_nil) rfl) rfl rfl) rfl rfl) res_nil) rfl) rfl hmm)))))
theorem draw_p (d l : Nat) (hl : l = 0 ∨ l = 1) (m : Int) (hm : 0 < m) (hm2 : m < 1073741824) (S : Sto) (hp : Pots S) : ∃ (g : Int) (S1 : Sto), 0 ≤ g ∧ g < m ∧ Pots S1 ∧ callD G (d + 1) 17 [.ref l, .int m] S = .ok (.int g) S1 := by
  obtain ⟨g, a, b, h0, h1, h⟩ := draw_ok d l m hm hm2 S (hp.at_ hl)
  exact ⟨g, _, h0, h1, hp.set (hp.at_ hl), h⟩
theorem pick_p (d l : Nat) (hl : l = 0 ∨ l = 1) (xs : List D) (hm : xs ≠ []) (hm2 : xs.length < 1073741824) (S : Sto) (hp : Pots S) : ∃ (x : D) (S1 : Sto), x ∈ xs ∧ Pots S1 ∧ callD G (d + 2) 18 [.ref l, .lst xs] S = .ok x S1 := by
  have h0 : 0 < xs.length := List.length_pos_iff.mpr hm
  obtain ⟨g, S1, hg0, hg1, hp1, h⟩ := draw_p d l hl (xs.length : Int) (by omega) (by omega) S hp
  have hgl : g.toNat < xs.length := by omega
  refine ⟨xs[g.toNat], S1, List.getElem_mem hgl, hp1, call_w (df := f18) rfl rfl (w_ret (re_sub (x := .lst xs) (y := .int g) rfl (re_call (res_cons rfl (res_cons rfl res_nil)) rfl h) ?_))⟩
  show (ixD xs.length g).bind (fun j => xs[j]?) = _
  have e := ix_nat hgl
  rw [Int.toNat_of_nonneg hg0] at e
  rw [e]
  show xs[g.toNat]? = _
  rw [List.getElem?_eq_getElem hgl]
end Ev.K95
set_option Elab.async false
set_option linter.all false
set_option autoImplicit false
set_option maxRecDepth 100000
set_option maxHeartbeats 4000000
/-! K95w: the plain law of k95: the drawn parts. -/
namespace Ev.K95
open PySem PySem.Spec PyProof.Rows L2 TL Ev Ev.Ru NumText
def ABX : List Nat := [97, 98, 120, 121, 122]
def isNm (w : List Nat) : Prop := 1 ≤ w.length ∧ w.length ≤ 3 ∧ ∀ c ∈ w, c ∈ ABX
theorem joinL_one : ∀ ys : List D, (∀ y ∈ ys, ∃ c ∈ ABX, y = .str [c]) → ∃ zs, strsOf ys = some zs ∧ zs.length = ys.length ∧ sumLen zs = ys.length ∧ (joinL [] zs).length = ys.length ∧ ∀ c ∈ joinL [] zs, c ∈ ABX
  | [], _ => ⟨[], rfl, rfl, rfl, rfl, fun c h => by cases h⟩
  | y :: ys, h => by
    obtain ⟨c, hc, rfl⟩ := h y (List.mem_cons_self ..)
    obtain ⟨zs, e, hl, hs, hj, hcs⟩ := joinL_one ys fun z hz => h z (List.mem_cons_of_mem _ hz)
    have ej : joinL [] ([c] :: zs) = [c] ++ joinL [] zs := by
      cases zs with
      | nil => rfl
      | cons z r => rfl
    refine ⟨[c] :: zs, ?_, ?_, ?_, ?_, ?_⟩
    · show (strsOf ys).map ([c] :: ·) = _
      rw [e]
      rfl
    · rw [List.length_cons, hl, List.length_cons]
    · show 1 + sumLen zs = _
      rw [hs, List.length_cons]
      omega
    · rw [ej, List.length_append, hj, List.length_cons]
      simp
      omega
    · intro c' hc'
      rw [ej] at hc'
      rcases List.mem_append.mp hc' with h1 | h1
      · rw [List.mem_singleton.mp h1]
        exact hc
      · exact hcs c' h1
theorem name_ok (d : Nat) (S : Sto) (hp : Pots S) : ∃ w S1, isNm w ∧ Pots S1 ∧ callD G (d + 3) 20 [.ref 0] S = .ok (.str w) S1 := by
  obtain ⟨g, S1, h0, h1, hp1, h⟩ := draw_p (d + 1) 0 (.inl rfl) 3 (by decide) (by decide) S hp
  obtain ⟨ys, S2, hl, hq, hp2, h2⟩ := rL_inv (P := ⟨callD G (d + 2), lamD G (d + 2), G.sub, fun _ => .bad, none⟩) (e := .call 18 [(.var 0), (.bif .list [(.cst (.str [97, 98, 120, 121, 122]))])] []) (slot := 6) (m := 10) (env := [some (.ref 0), none, none, none, none, none, none]) (I := Pots) (Q := fun y => ∃ c ∈ ABX, y = .str [c]) (Nat.le_of_ble_eq_true rfl) (fun x k S hS => by
    obtain ⟨y, S1, hy, hp1, h⟩ := pick_p d 0 (.inl rfl) (ABX.map fun c => .str [c]) (by decide) (by decide) S hS
    obtain ⟨c, hc, rfl⟩ := List.mem_map.mp hy
    exact ⟨_, S1, ⟨c, hc, rfl⟩, hp1, re_call (res_cons rfl (res_cons (re_bif rfl rfl) res_nil)) rfl h⟩) (rngD 0 (1 + g - 0).toNat) 899995 0 S1 hp1 (by rw [rng_len]; omega)
  obtain ⟨zs, e, hzl, hs, hj, hcs⟩ := joinL_one ys hq
  rw [rng_len] at hl
  have hll : ys.length ≤ 3 ∧ 1 ≤ ys.length := by omega
  refine ⟨joinL [] zs, S2, ⟨by omega, by omega, hcs⟩, hp2, call_w (df := f20) rfl rfl (w_ret (re_met (S1 := S) (x := .str []) (ds := [.lst ys]) rfl rfl (res_cons (re_lc2 (ri_rng rfl (re_bop (S2 := S1) (x := .int 1) (y := .int g) rfl (re_call rfl rfl h) rfl) ?_) rfl h2 (by unfold LINE; omega)) res_nil) (fun _ => by simp) ?_))⟩
  · simp only [Bool.and_eq_true, decide_eq_true_eq]
    omega
  · show (match strsOf ys with
      | some ys => if decide (sumLen ys + ([] : List Nat).length * ys.length ≤ LINE) = true then some (D.str (joinL [] ys)) else none
      | none => none) = _
    rw [e]
    exact if_pos (decide_eq_true (by
      show sumLen zs + 0 * zs.length ≤ LINE
      unfold LINE
      omega))
def menuI : List Int := [0, 1, -1, 7, 1000000000000, -1000000000000, 305]
theorem args_ok (d : Nat) (S : Sto) (hp : Pots S) : ∃ (is : List Int) (S1 : Sto), is.length ≤ 6 ∧ (∀ i ∈ is, i ∈ menuI) ∧ Pots S1 ∧ callD G (d + 3) 22 [.ref 0] S = .ok (.tup (is.map .int)) S1 := by
  obtain ⟨g, S1, h0, h1, hp1, h⟩ := draw_p (d + 1) 0 (.inl rfl) 7 (by decide) (by decide) S hp
  obtain ⟨ys, S2, hl, hq, hp2, h2⟩ := rL_inv (P := ⟨callD G (d + 2), lamD G (d + 2), G.sub, fun _ => .bad, none⟩) (e := .call 18 [(.var 0), (.lst [(.cst (.int (0))), (.cst (.int (1))), (.neg (.cst (.int (1)))), (.cst (.int (7))), (.bop .Pow (.cst (.int (10))) (.cst (.int (12)))), (.bop .Sub (.cst (.int (0))) (.bop .Pow (.cst (.int (10))) (.cst (.int (12))))), (.cst (.int (305)))])] []) (slot := 5) (m := 20) (env := [some (.ref 0), none, none, none, none, none, none]) (I := Pots) (Q := fun y => ∃ i ∈ menuI, y = .int i) (Nat.le_of_ble_eq_true rfl) (fun x k S hS => by
    obtain ⟨y, S1, hy, hp1, h⟩ := pick_p d 0 (.inl rfl) (menuI.map .int) (by decide) (by decide) S hS
    obtain ⟨c, hc, rfl⟩ := List.mem_map.mp hy
    exact ⟨_, S1, ⟨c, hc, rfl⟩, hp1, re_call (res_cons rfl (res_cons (re_lst (res_cons rfl (res_cons rfl (res_cons rfl (res_cons rfl (res_cons (re_bop rfl rfl pow12) (res_cons (re_bop rfl (re_bop rfl rfl pow12) rfl) (res_cons rfl res_nil)))))))) res_nil)) rfl h⟩) (rngD 0 (g - 0).toNat) 899995 0 S1 hp1 (by rw [rng_len]; omega)
  rw [rng_len] at hl
  have hi : ∃ is : List Int, ys = is.map .int ∧ ∀ i ∈ is, i ∈ menuI := by
    clear hl h2
    induction ys with
    | nil => exact ⟨[], rfl, fun i h => by cases h⟩
    | cons y ys ih =>
      obtain ⟨i, hi, rfl⟩ := hq y (List.mem_cons_self ..)
      obtain ⟨is, rfl, his⟩ := ih fun z hz => hq z (List.mem_cons_of_mem _ hz)
      refine ⟨i :: is, rfl, fun j hj => ?_⟩
      rcases List.mem_cons.mp hj with rfl | hj
      · exact hi
      · exact his j hj
  obtain ⟨is, rfl, his⟩ := hi
  rw [List.length_map] at hl
  refine ⟨is, S2, by omega, his, hp2, call_w (df := f22) rfl rfl (w_ret (re_bif (res_cons (re_lc2 (ri_rng rfl (re_call rfl rfl h) ?_) rfl h2 (by rw [List.length_map]; unfold LINE; omega)) res_nil) rfl))⟩
  simp only [Bool.and_eq_true, decide_eq_true_eq]
  omega
end Ev.K95
set_option Elab.async false
set_option linter.all false
set_option autoImplicit false
set_option maxRecDepth 100000
set_option maxHeartbeats 4000000
/-! K95x: the plain law of k95: the drawn parts, all of them. -/
namespace Ev.K95
open PySem PySem.Spec PyProof.Rows L2 TL Ev Ev.Ru NumText
def wOpen : List Nat := [111, 112, 101, 110]
def wBeat : List Nat := [98, 101, 97, 116]
def wDeed : List Nat := [100, 101, 101, 100]
def NWS : List (List Nat) := [[99, 111, 109, 109, 105, 116], [108, 101, 97, 118, 101], [99, 111, 112, 121], [112, 117, 108, 108]]
def OAS : List (List Nat) := [[111, 112, 101, 110], [97, 115, 107]]
def okI (i : Int) : Prop := -1000000000000 ≤ i ∧ i ≤ 1000000000000
def deedT (a : List Nat) : List Nat := [100, 101, 101, 100, 32] ++ a ++ [40, 32, 123, 32, 49, 32, 125]
inductive PSet : List Nat → List D → Prop
  | oa (w0 a b : List Nat) (is : List Int) : w0 ∈ OAS → isNm a → isNm b → is.length ≤ 6 → (∀ i ∈ is, okI i) → PSet w0 [.str a, .str b, .tup (is.map .int)]
  | beat (a : List Nat) (i : Int) : isNm a → 0 ≤ i → i < 1000000000 → PSet wBeat [.str a, .int i]
  | nw (w0 a : List Nat) : w0 ∈ NWS → isNm a → PSet w0 [.str a]
  | crash (is : List Int) : is.length = 2 ∨ is.length = 4 → (∀ i ∈ is, 0 ≤ i ∧ i < 200) → PSet crash (is.map .int)
  | deed (a : List Nat) : isNm a → PSet wDeed [.str (deedT a)]
  | one (w0 : List Nat) : w0 ∈ SNG → PSet w0 []
def WDS : List (List Nat) := [[111, 112, 101, 110], [98, 101, 97, 116], [99, 111, 109, 109, 105, 116], [108, 101, 97, 118, 101], [115, 121, 110, 99], [105, 109, 97, 103, 101], [99, 117, 116], [99, 108, 101, 97, 110], [102, 111, 114, 103, 101, 116], [99, 114, 97, 115, 104], [99, 111, 112, 121], [112, 117, 108, 108], [97, 115, 107], [100, 101, 101, 100]]
theorem menu_ok : ∀ i ∈ menuI, okI i := by
  unfold okI menuI
  decide
theorem cat_str {x y : List Nat} (hx : x.length ≤ 1000) (hy : y.length ≤ 1000) : bopD .Add (.str x) (.str y) = some (.str (x ++ y)) := by
  show (if catOk x.length y.length = true then _ else _) = _
  unfold catOk LINE
  rw [decide_eq_true (by omega), decide_eq_true (by omega)]
  rfl
theorem cat_tup {x y : List D} (hx : x.length ≤ 1000) (hy : y.length ≤ 1000) : bopD .Add (.tup x) (.tup y) = some (.tup (x ++ y)) := by
  show (if catOk x.length y.length = true then _ else _) = _
  unfold catOk LINE
  rw [decide_eq_true (by omega), decide_eq_true (by omega)]
  rfl
theorem ints_of {ys : List D} {p : Int → Prop} (h : ∀ y ∈ ys, ∃ i, p i ∧ y = .int i) : ∃ is : List Int, ys = is.map .int ∧ ∀ i ∈ is, p i := by
  induction ys with
  | nil => exact ⟨[], rfl, fun i h => by cases h⟩
  | cons y ys ih =>
    obtain ⟨i, hi, rfl⟩ := h y (List.mem_cons_self ..)
    obtain ⟨is, rfl, his⟩ := ih fun z hz => h z (List.mem_cons_of_mem _ hz)
    refine ⟨i :: is, rfl, fun j hj => ?_⟩
    rcases List.mem_cons.mp hj with rfl | hj
    · exact hi
    · exact his j hj
theorem crash_ints (d : Nat) (S : Sto) (hp : Pots S) : ∃ (is : List Int) (S1 : Sto), (is.length = 2 ∨ is.length = 4) ∧ (∀ i ∈ is, 0 ≤ i ∧ i < 200) ∧ Pots S1 ∧
    evE ⟨callD G (d + 3), lamD G (d + 3), G.sub, fun _ => .bad, none⟩ 899991 (.bif .tuple [(.lc (.call 17 [(.var 0), (.cst (.int (200)))] []) (.nm 5) (.rng (.cst (.int (0))) (.ife (.cmp .Eq (.call 17 [(.var 0), (.cst (.int (2)))] []) (.cst (.int (0)))) (.cst (.int (2))) (.cst (.int (4))))) [] [5])]) [some (.ref 0), some (.str crash), none, none, none, none, none] S = .ok (.tup (is.map .int)) S1 := by
  obtain ⟨g, S1, h0, h1, hp1, h⟩ := draw_p (d + 2) 0 (.inl rfl) 2 (by decide) (by decide) S hp
  have hc : ∃ c : Int, (c = 2 ∨ c = 4) ∧ evE ⟨callD G (d + 3), lamD G (d + 3), G.sub, fun _ => .bad, none⟩ 899987 (.ife (.cmp .Eq (.call 17 [(.var 0), (.cst (.int (2)))] []) (.cst (.int (0)))) (.cst (.int (2))) (.cst (.int (4)))) [some (.ref 0), some (.str crash), none, none, none, none, none] S = .ok (.int c) S1 := by
    by_cases hg : g = 0
    · subst hg
      exact ⟨2, .inl rfl, re_iteT (S1 := S1) (rt_bl (fun _ _ => rfl) (re_cmp (re_call (res_cons rfl (res_cons rfl res_nil)) rfl h) rfl rfl)) rfl⟩
    · have e : (some (D.bl (g == 0)) : Option D) = some (.bl false) := by simp [hg]
      exact ⟨4, .inr rfl, re_iteF (S1 := S1) (rt_bl (fun _ _ => rfl) (re_cmp (x := .int g) (re_call (res_cons rfl (res_cons rfl res_nil)) rfl h) rfl e)) rfl⟩
  obtain ⟨c, hc24, hc⟩ := hc
  obtain ⟨ys, S2, hl, hq, hp2, h2⟩ := rL_inv (P := ⟨callD G (d + 3), lamD G (d + 3), G.sub, fun _ => .bad, none⟩) (e := .call 17 [(.var 0), (.cst (.int (200)))] []) (slot := 5) (m := 20) (env := [some (.ref 0), some (.str crash), none, none, none, none, none]) (I := Pots) (Q := fun y => ∃ i : Int, (0 ≤ i ∧ i < 200) ∧ y = .int i) (Nat.le_of_ble_eq_true rfl) (fun x k S hS => by
    obtain ⟨y, S1, hy0, hy1, hp1, h⟩ := draw_p (d + 2) 0 (.inl rfl) 200 (by decide) (by decide) S hS
    exact ⟨_, S1, ⟨y, ⟨hy0, hy1⟩, rfl⟩, hp1, re_call (res_cons rfl (res_cons rfl res_nil)) rfl h⟩) (rngD 0 (c - 0).toNat) 899988 0 S1 hp1 (by rw [rng_len]; omega)
  rw [rng_len] at hl
  obtain ⟨is, rfl, his⟩ := ints_of hq
  rw [List.length_map] at hl
  refine ⟨is, S2, ?_, his, hp2, re_bif (res_cons (re_lc2 (ri_rng rfl hc ?_) rfl h2 (by rw [List.length_map]; unfold LINE; omega)) res_nil) rfl⟩
  · rcases hc24 with rfl | rfl
    · exact .inl hl
    · exact .inr hl
  · simp only [Bool.and_eq_true, decide_eq_true_eq]
    omega
theorem parts_ok (d : Nat) (S : Sto) (hp : Pots S) : ∃ w0 ps S1, PSet w0 ps ∧ Pots S1 ∧ callD G (d + 4) 23 [.ref 0] S = .ok (.tup (.str w0 :: ps)) S1 := by
  obtain ⟨y, S1, hy, hp1, h⟩ := pick_p (d + 1) 0 (.inl rfl) (WDS.map .str) (by decide) (by decide) S hp
  obtain ⟨w, hw, rfl⟩ := List.mem_map.mp hy
  have asgH : ∀ {r : R D}, thenR (evSs ⟨callD G (d + 3), lamD G (d + 3), G.sub, fun _ => .bad, none⟩ 899999 (f23.body.drop 1) [some (.ref 0), some (.str w), none, none, none, none, none] S1) (fun _ S => .ok .non S) = r → callD G (d + 4) 23 [.ref 0] S = r := fun hr =>
    call_w (df := f23) rfl rfl (w_asg (S1 := S1) (d := .str w) (re_call (res_cons rfl (res_cons rfl res_nil)) rfl h) rfl hr)
  have oa : ∀ w ∈ OAS, ∃ w0 ps S2, PSet w0 ps ∧ Pots S2 ∧ thenR (evSs ⟨callD G (d + 3), lamD G (d + 3), G.sub, fun _ => .bad, none⟩ 899999 (f23.body.drop 1) [some (.ref 0), some (.str w), none, none, none, none, none] S1) (fun _ S => .ok .non S) = .ok (.tup (.str w0 :: ps)) S2 := fun w hw => by
    obtain ⟨a, S2, ha, hp2, h2⟩ := name_ok d S1 hp1
    obtain ⟨b, S3, hb, hp3, h3⟩ := name_ok d S2 hp2
    obtain ⟨is, S4, hl, his, hp4, h4⟩ := args_ok d S3 hp3
    refine ⟨w, _, S4, .oa w a b is hw ha hb hl (fun i hi => menu_ok i (his i hi)), hp4, ?_⟩
    have he : ∀ {n : Nat}, evE ⟨callD G (d + 3), lamD G (d + 3), G.sub, fun _ => .bad, none⟩ (n + 10) (.tup [(.var 1), (.call 20 [(.var 0)] []), (.call 20 [(.var 0)] []), (.call 22 [(.var 0)] [])]) [some (.ref 0), some (.str w), none, none, none, none, none] S1 = .ok (.tup [.str w, .str a, .str b, .tup (is.map .int)]) S4 := fun {n} =>
      re_tup (res_cons rfl (res_cons (re_call (res_cons rfl res_nil) rfl h2) (res_cons (re_call (res_cons rfl res_nil) rfl h3) (res_cons (re_call (res_cons rfl res_nil) rfl h4) res_nil))))
    unfold OAS at hw
    simp only [List.mem_cons, List.not_mem_nil, or_false] at hw
    rcases hw with rfl | rfl
    · exact w_iffT (S1 := S1) rfl (w_ret he)
    · exact w_iffT (S1 := S1) rfl (w_ret he)
  have nw : ∀ w ∈ NWS, ∃ w0 ps S2, PSet w0 ps ∧ Pots S2 ∧ thenR (evSs ⟨callD G (d + 3), lamD G (d + 3), G.sub, fun _ => .bad, none⟩ 899999 (f23.body.drop 1) [some (.ref 0), some (.str w), none, none, none, none, none] S1) (fun _ S => .ok .non S) = .ok (.tup (.str w0 :: ps)) S2 := fun w hw => by
    obtain ⟨a, S2, ha, hp2, h2⟩ := name_ok d S1 hp1
    refine ⟨w, _, S2, .nw w a hw ha, hp2, ?_⟩
    have he : ∀ {n : Nat}, evE ⟨callD G (d + 3), lamD G (d + 3), G.sub, fun _ => .bad, none⟩ (n + 10) (.tup [(.var 1), (.call 20 [(.var 0)] [])]) [some (.ref 0), some (.str w), none, none, none, none, none] S1 = .ok (.tup [.str w, .str a]) S2 := fun {n} =>
      re_tup (res_cons rfl (res_cons (re_call (res_cons rfl res_nil) rfl h2) res_nil))
    unfold NWS at hw
    simp only [List.mem_cons, List.not_mem_nil, or_false] at hw
    rcases hw with rfl | rfl | rfl | rfl
    all_goals exact w_iffF (S1 := S1) rfl (w_nil (w_iffF (S1 := S1) rfl (w_nil (w_iffT (S1 := S1) rfl (w_ret he)))))
  have one : ∀ w ∈ SNG, ∃ w0 ps S2, PSet w0 ps ∧ Pots S2 ∧ thenR (evSs ⟨callD G (d + 3), lamD G (d + 3), G.sub, fun _ => .bad, none⟩ 899999 (f23.body.drop 1) [some (.ref 0), some (.str w), none, none, none, none, none] S1) (fun _ S => .ok .non S) = .ok (.tup (.str w0 :: ps)) S2 := fun w hw => by
    refine ⟨w, _, S1, .one w hw, hp1, ?_⟩
    unfold SNG at hw
    simp only [List.mem_cons, List.not_mem_nil, or_false] at hw
    rcases hw with rfl | rfl | rfl | rfl | rfl
    all_goals exact w_iffF (S1 := S1) rfl (w_nil (w_iffF (S1 := S1) rfl (w_nil (w_iffF (S1 := S1) rfl (w_nil (w_iffF (S1 := S1) rfl (w_nil (w_ret rfl))))))))
  have fin : (∃ w0 ps S2, PSet w0 ps ∧ Pots S2 ∧ thenR (evSs ⟨callD G (d + 3), lamD G (d + 3), G.sub, fun _ => .bad, none⟩ 899999 (f23.body.drop 1) [some (.ref 0), some (.str w), none, none, none, none, none] S1) (fun _ S => .ok .non S) = .ok (.tup (.str w0 :: ps)) S2) → ∃ w0 ps S1, PSet w0 ps ∧ Pots S1 ∧ callD G (d + 4) 23 [.ref 0] S = .ok (.tup (.str w0 :: ps)) S1 := fun ⟨w0, ps, S2, h1, h2, h3⟩ => ⟨w0, ps, S2, h1, h2, asgH h3⟩
  apply fin
  clear asgH fin h
  have split : w ∈ OAS ∨ w = wBeat ∨ w ∈ NWS ∨ w ∈ SNG ∨ w = crash ∨ w = wDeed := by
    have : ∀ w ∈ WDS, w ∈ OAS ∨ w = wBeat ∨ w ∈ NWS ∨ w ∈ SNG ∨ w = crash ∨ w = wDeed := by decide
    exact this w hw
  rcases split with hw | rfl | hw | hw | rfl | rfl
  · exact oa w hw
  · obtain ⟨a, S2, ha, hp2, h2⟩ := name_ok d S1 hp1
    obtain ⟨y, S3, hy, hp3, h3⟩ := pick_p (d + 1) 0 (.inl rfl) (([0, 3, 10, 999999999] : List Int).map .int) (by decide) (by decide) S2 hp2
    obtain ⟨i, hi, rfl⟩ := List.mem_map.mp hy
    have hi2 : ∀ i ∈ ([0, 3, 10, 999999999] : List Int), 0 ≤ i ∧ i < 1000000000 := by decide
    refine ⟨wBeat, _, S3, .beat a i ha (hi2 i hi).1 (hi2 i hi).2, hp3, ?_⟩
    exact w_iffF (S1 := S1) rfl (w_nil (w_iffT (S1 := S1) rfl (w_ret (re_tup (res_cons rfl (res_cons (re_call (res_cons rfl res_nil) rfl h2) (res_cons (re_call (res_cons rfl (res_cons rfl res_nil)) rfl h3) res_nil)))))))
  · exact nw w hw
  · exact one w hw
  · obtain ⟨is, S2, hl, his, hp2, h2⟩ := crash_ints d S1 hp1
    refine ⟨crash, _, S2, .crash is hl his, hp2, ?_⟩
    exact w_iffF (S1 := S1) rfl (w_nil (w_iffF (S1 := S1) rfl (w_nil (w_iffF (S1 := S1) rfl (w_nil (w_iffT (S1 := S1) rfl (w_ret (re_bop (x := .tup [.str crash]) rfl h2 (cat_tup (by decide) (by rw [List.length_map]; omega))))))))))
  · obtain ⟨a, S2, ha, hp2, h2⟩ := name_ok d S1 hp1
    refine ⟨wDeed, _, S2, .deed a ha, hp2, ?_⟩
    have hal := ha.2.1
    exact w_iffF (S1 := S1) rfl (w_nil (w_iffF (S1 := S1) rfl (w_nil (w_iffF (S1 := S1) rfl (w_nil (w_iffF (S1 := S1) rfl (w_nil (w_ret (re_iteT (S1 := S1) rfl (re_tup (res_cons rfl (res_cons (re_bop (re_bop (y := .str a) rfl (re_call (res_cons rfl res_nil) rfl h2) (cat_str (by decide) (by omega))) rfl (cat_str (by simp; omega) (by decide))) res_nil))))))))))))
end Ev.K95
set_option Elab.async false
set_option linter.all false
set_option autoImplicit false
set_option maxRecDepth 100000
set_option maxHeartbeats 4000000
/-! K95y: the plain law of k95: parts written as a text. -/
namespace Ev.K95
open PySem PySem.Spec PyProof.Rows L2 TL Ev Ev.Ru NumText
inductive SP : D → Prop
  | str (w : List Nat) : w ≠ [] → w.length ≤ 8 → (∀ c ∈ w, 97 ≤ c ∧ c ≤ 122) → SP (.str w)
  | int (i : Int) : okI i → SP (.int i)
  | tup (is : List Int) : is.length ≤ 6 → (∀ i ∈ is, okI i) → SP (.tup (is.map .int))
theorem nm_sp {a : List Nat} (h : isNm a) : SP (.str a) := .str a (fun z => by
    have := h.1
    rw [z] at this
    cases this) (Nat.le_trans h.2.1 (by decide)) fun c hc => by
  have : ∀ c ∈ ABX, 97 ≤ c ∧ c ≤ 122 := by decide
  exact this c (h.2.2 c hc)
def numsT : List D → List (List Nat)
  | .int i :: r => showInt i :: numsT r
  | _ :: r => numsT r
  | [] => []
def toldT : D → List Nat
  | .str w => w
  | .int i => showInt i
  | .tup xs => joinL [44] (numsT xs)
  | _ => []
def wordT (y : D) : List Nat := if toldT y = [] then [46] else toldT y
theorem numsT_map : ∀ is : List Int, numsT (is.map .int) = is.map showInt
  | [] => rfl
  | i :: r => congrArg (showInt i :: ·) (numsT_map r)
theorem show_ne (i : Int) : showInt i ≠ [] := by
  cases i with
  | ofNat n => exact numL_ne n
  | negSucc n => exact List.cons_ne_nil _ _
theorem show_len2 {i : Int} (h : okI i) : (showInt i).length ≤ 14 := by
  obtain ⟨h1, h2⟩ := h
  cases i with
  | ofNat n =>
    have : n < 10 ^ 13 := by
      have : (Int.ofNat n) = (n : Int) := rfl
      omega
    exact Nat.le_trans (numL_len (k := 13) (by decide) this) (by decide)
  | negSucc n =>
    show (numL (n + 1)).length + 1 ≤ 14
    have : n + 1 < 10 ^ 13 := by omega
    have := numL_len (k := 13) (by decide) this
    omega
theorem show_chars {i : Int} : ∀ c ∈ showInt i, c = 45 ∨ (48 ≤ c ∧ c ≤ 57) := by
  cases i with
  | ofNat n => exact fun c hc => .inr (numL_digits n c hc)
  | negSucc n =>
    intro c hc
    rcases List.mem_cons.mp hc with rfl | hc
    · exact .inl rfl
    · exact .inr (numL_digits _ c hc)
theorem str_ok {i : Int} (h : okI i) : bifD .str [.int i] = some (.str (showInt i)) := by
  have : i.natAbs.log2 < 1920 := log2_40 (by unfold okI at h; omega)
  exact if_pos (decide_eq_true this)
theorem strs_map : ∀ ws : List (List Nat), strsOf (ws.map .str) = some ws
  | [] => rfl
  | w :: r => by
    show (strsOf (r.map D.str)).map (w :: ·) = _
    rw [strs_map r]
    rfl
theorem join_ok {sep : List Nat} {ws : List (List Nat)} (h : sumLen ws + sep.length * ws.length ≤ LINE) : metD .join (.str sep) [.lst (ws.map .str)] = some (.str (joinL sep ws)) := by
  show (match strsOf (ws.map D.str) with
    | some ys => if decide (sumLen ys + sep.length * ys.length ≤ LINE) = true then some (D.str (joinL sep ys)) else none
    | none => none) = _
  rw [strs_map]
  exact if_pos (decide_eq_true h)
theorem sum_le {k : Nat} : ∀ ws : List (List Nat), (∀ w ∈ ws, w.length ≤ k) → sumLen ws ≤ k * ws.length
  | [], _ => Nat.zero_le _
  | w :: r, h => by
    have h1 := sum_le r fun z hz => h z (List.mem_cons_of_mem _ hz)
    have h2 := h w (List.mem_cons_self ..)
    show w.length + sumLen r ≤ k * (r.length + 1)
    rw [Nat.mul_add, Nat.mul_one]
    omega
theorem join_len {c : Nat} : ∀ ws : List (List Nat), (joinL [c] ws).length ≤ sumLen ws + ws.length
  | [] => Nat.zero_le _
  | [w] => by show w.length ≤ w.length + 0 + 1; omega
  | w :: v :: r => by
    have := join_len (c := c) (v :: r)
    show (w ++ ([c] ++ joinL [c] (v :: r))).length ≤ w.length + sumLen (v :: r) + ((v :: r).length + 1)
    rw [List.length_append, List.length_append]
    show w.length + (1 + _) ≤ _
    omega
theorem join_chars {c : Nat} {p : Nat → Prop} (hc : p c) : ∀ ws : List (List Nat), (∀ w ∈ ws, ∀ x ∈ w, p x) → ∀ x ∈ joinL [c] ws, p x
  | [], _, x, hx => by cases hx
  | [w], h, x, hx => h w (List.mem_cons_self ..) x hx
  | w :: v :: r, h, x, hx => by
    have hx : x ∈ w ++ ([c] ++ joinL [c] (v :: r)) := hx
    rcases List.mem_append.mp hx with hx | hx
    · exact h w (List.mem_cons_self ..) x hx
    · rcases List.mem_append.mp hx with hx | hx
      · rw [List.mem_singleton.mp hx]
        exact hc
      · exact join_chars hc (v :: r) (fun z hz => h z (List.mem_cons_of_mem _ hz)) x hx
theorem join_ne {c : Nat} {w : List Nat} (h : w ≠ []) (r : List (List Nat)) : joinL [c] (w :: r) ≠ [] := by
  cases r with
  | nil => exact h
  | cons v r =>
    cases w with
    | nil => exact absurd rfl h
    | cons a w => exact List.cons_ne_nil _ _
theorem word_facts {y : D} (h : SP y) : wordT y ≠ [] ∧ (wordT y).length ≤ 100 ∧ ∀ c ∈ wordT y, 32 < c ∧ c < 128 := by
  have key : (toldT y).length ≤ 100 ∧ ∀ c ∈ toldT y, 32 < c ∧ c < 128 := by
    cases h with
    | str w h1 h2 h3 => exact ⟨Nat.le_trans h2 (by decide), fun c hc => by have := h3 c hc; omega⟩
    | int i h1 => exact ⟨Nat.le_trans (show_len2 h1) (by decide), fun c hc => by have := show_chars c hc; omega⟩
    | tup is h1 h2 =>
      show (joinL [44] (numsT (is.map .int))).length ≤ 100 ∧ ∀ c ∈ joinL [44] (numsT (is.map .int)), 32 < c ∧ c < 128
      rw [numsT_map]
      refine ⟨?_, join_chars (by decide) _ fun w hw c hc => ?_⟩
      · have h3 := join_len (c := 44) (is.map showInt)
        have h4 := sum_le (k := 14) (is.map showInt) fun w hw => by
          obtain ⟨i, hi, rfl⟩ := List.mem_map.mp hw
          exact show_len2 (h2 i hi)
        rw [List.length_map] at h3 h4
        omega
      · obtain ⟨i, hi, rfl⟩ := List.mem_map.mp hw
        have := show_chars c hc
        omega
  unfold wordT
  by_cases e : toldT y = []
  · rw [if_pos e]
    exact ⟨List.cons_ne_nil _ _, by decide, by decide⟩
  · rw [if_neg e]
    exact ⟨e, key⟩
theorem str_comp {P : Pg} {n slot : Nat} {it : Ex} {env env1 : EnvD} {own : List Nat} {S : Sto} {is : List Int} (h6 : is.length ≤ 6) (hi : ∀ i ∈ is, okI i) (he : evI P n it env S = .ok (.fix (is.map .int)) S) (hw : wipeD own env = env1) (hs : slot < env1.length) (hn : 100 ≤ n) :
    evE P (n + 1) (.lc (.bif .str [(.var slot)]) (.nm slot) it [] own) env S = .ok (.lst ((is.map showInt).map .str)) S := by
  have h := re_vals (P := P) (n := n) (e := .bif .str [(.var slot)]) (it := it) (env := env) (S := S) (slot := slot) (m := 4) (own := own) (env1 := env1) (g := fun y => .str (toldT y)) (w := is.map .int) he hw hs (fun x hx k => by
    obtain ⟨i, hii, rfl⟩ := List.mem_map.mp hx
    exact re_bif (ds := [.int i]) (res_cons (re_var (by rw [List.getElem?_set_self hs])) res_nil) (str_ok (hi i hii))) (by rw [List.length_map]; omega) (by rw [List.length_map]; unfold LINE; omega)
  rw [List.map_map] at h
  rw [List.map_map]
  exact h
theorem sum6 {is : List Int} (h6 : is.length ≤ 6) (hi : ∀ i ∈ is, okI i) : sumLen (is.map showInt) + ([44] : List Nat).length * (is.map showInt).length ≤ LINE := by
  have h4 := sum_le (k := 14) (is.map showInt) fun w hw => by
    obtain ⟨i, hii, rfl⟩ := List.mem_map.mp hw
    exact show_len2 (hi i hii)
  rw [List.length_map] at h4 ⊢
  show _ + 1 * _ ≤ _
  unfold LINE
  omega
theorem deq_tup {is : List Int} (hi : ∀ i ∈ is, okI i) : deq (.tup (is.map .int)) (.tup []) = some (is.isEmpty) := by
  have ho : okDs (is.map D.int) = true := okDs_all fun y hy => by
    obtain ⟨i, hii, rfl⟩ := List.mem_map.mp hy
    have := hi i hii
    unfold okI at this
    exact decide_eq_true (by omega)
  have hd : deps (is.map D.int) ≤ 0 := deps_all fun y hy => by
    obtain ⟨i, hii, rfl⟩ := List.mem_map.mp hy
    exact Nat.le_refl _
  obtain ⟨ps, e, h1, h2, h3, h4, h5, h6⟩ := oks_py _ ho
  have e' : D.py (.tup (is.map .int)) = (D.py.pys (is.map D.int)).map .tuple := by
    conv => lhs; unfold D.py
  have e2 : D.py (.tup []) = some (.tuple []) := rfl
  have e3 : SeqAt.shaped (.tuple ps) = true := by
    unfold SeqAt.shaped
    show (PyData.canLayAll0 ps && decide (PyData.depthAll ps + 1 ≤ 64)) = true
    rw [h1, decide_eq_true (by omega)]
    rfl
  have e4 : SeqAt.shaped (.tuple []) = true := rfl
  unfold deq
  show (match D.py (.tup (is.map .int)), D.py (.tup []) with
    | some x, some y => if (SeqAt.shaped x && SeqAt.shaped y) = true then some (PyData.eqv x y) else none
    | _, _ => none) = _
  rw [e', e, e2]
  show (if (SeqAt.shaped (.tuple ps) && SeqAt.shaped (.tuple [])) = true then some (PyData.eqv (.tuple ps) (.tuple [])) else none) = _
  rw [e3, e4]
  show some (PyData.eqvAll ps []) = _
  congr 1
  cases is with
  | nil =>
    cases e
    rfl
  | cons i r =>
    cases ps with
    | nil =>
      have : D.py.pys (D.int i :: r.map D.int) = some [] := e
      unfold D.py.pys at this
      revert this
      have e0 : D.py (.int i) = some (.int i) := rfl
      rw [e0]
      cases D.py.pys (r.map D.int) <;> (intro z; cases z)
    | cons p ps => rfl
/-! word_by, text_by -/
theorem word_by_ok (d : Nat) {y : D} (h : SP y) (S : Sto) : callD G (d + 1) 12 [y] S = .ok (.str (wordT y)) S := by
  cases h with
  | str w h1 h2 h3 =>
    have e : wordT (.str w) = w := if_neg h1
    rw [e]
    exact call_w (df := f12) rfl rfl (w_iffF (S1 := S) rfl (w_nil (w_ret rfl)))
  | int i h1 =>
    have e : wordT (.int i) = showInt i := if_neg (show_ne i)
    rw [e]
    exact call_w (df := f12) rfl rfl (w_iffF (S1 := S) rfl (w_nil (w_ret (re_bif rfl (str_ok h1)))))
  | tup is h1 h2 =>
    have e0 : toldT (.tup (is.map .int)) = joinL [44] (is.map showInt) := by
      show joinL [44] (numsT (is.map .int)) = _
      rw [numsT_map]
    refine call_w (df := f12) rfl rfl (w_iffT (S1 := S) rfl (w_ret (re_ite2 (q := !is.isEmpty) (rt_bl (fun _ _ => rfl) (re_cmp rfl rfl (congrArg notO (deq_tup h2)))) (fun hq => ?_) (fun hq => ?_))))
    · cases is with
      | nil => cases hq
      | cons i r =>
        have e : wordT (.tup ((i :: r).map .int)) = joinL [44] ((i :: r).map showInt) := by
          unfold wordT
          rw [e0]
          exact if_neg (join_ne (show_ne i) (r.map showInt))
        rw [e]
        exact re_met rfl rfl (res_cons (str_comp h1 h2 rfl rfl (Nat.le_of_ble_eq_true rfl) (by omega)) res_nil) (fun _ => by simp) (join_ok (sum6 h1 h2))
    · cases is with
      | nil => rfl
      | cons i r => cases hq
theorem sub0t (a : D) (r : List D) : subD (.tup (a :: r)) (.int 0) = some a := by
  unfold subD ixD
  simp
theorem sub1t (a b : D) (r : List D) : subD (.tup (a :: b :: r)) (.int 1) = some b := by
  show (ixD (r.length + 1 + 1) ((1 : Nat) : Int)).bind (fun j => (a :: b :: r)[j]?) = _
  rw [ix_nat (by omega)]
  rfl
theorem cut1t (a : D) (r : List D) : cutD (a :: r) (some 1) none = r := cut1l a r
def textT (w0 : List Nat) (ps : List D) : List Nat := joinL [32] (w0 :: ps.map wordT)
theorem sum_words {w0 : List Nat} {ps : List D} (h0 : w0.length ≤ 8) (hp : ∀ y ∈ ps, SP y) (hl : ps.length ≤ 4) : sumLen (w0 :: ps.map wordT) + ([32] : List Nat).length * (w0 :: ps.map wordT).length ≤ 420 := by
  have h4 := sum_le (k := 100) (ps.map wordT) fun w hw => by
    obtain ⟨y, hy, rfl⟩ := List.mem_map.mp hw
    exact (word_facts (hp y hy)).2.1
  rw [List.length_map] at h4
  show w0.length + sumLen (ps.map wordT) + 1 * ((ps.map wordT).length + 1) ≤ 420
  rw [List.length_map]
  omega
theorem text_by_ok (d : Nat) {w0 : List Nat} {ps : List D} (hd : w0 ≠ wDeed) (h1 : w0 ≠ []) (h0 : w0.length ≤ 8) (hp : ∀ y ∈ ps, SP y) (hl : ps.length ≤ 4) (S : Sto) (hw : ∀ c ∈ w0, 97 ≤ c ∧ c ≤ 122) : callD G (d + 2) 13 [.tup (.str w0 :: ps)] S = .ok (.str (textT w0 ps)) S := by
  have hs := sum_words h0 hp hl
  have hall : ∀ y ∈ D.str w0 :: ps, SP y := fun y hy => by
    rcases List.mem_cons.mp hy with rfl | hy
    · exact .str w0 h1 h0 hw
    · exact hp y hy
  have e : (D.str w0 :: ps).map (fun y => D.str (wordT y)) = (w0 :: ps.map wordT).map .str := by
    have : wordT (.str w0) = w0 := if_neg h1
    rw [List.map_cons, List.map_cons, List.map_map, this]
    rfl
  have h := re_vals (P := ⟨callD G (d + 1), lamD G (d + 1), G.sub, fun _ => .bad, none⟩) (n := 899994) (e := .call 12 [(.var 4)] []) (it := .var 0) (env := [some (.tup (.str w0 :: ps)), none, none, none, none, none, none]) (S := S) (slot := 4) (m := 4) (own := [4]) (g := fun y => .str (wordT y)) (w := .str w0 :: ps) rfl rfl (Nat.le_of_ble_eq_true rfl) (fun x hx k => re_call (res_cons rfl res_nil) rfl (word_by_ok d (hall x hx) S)) (by rw [List.length_cons]; omega) (by rw [List.length_cons]; unfold LINE; omega)
  rw [e] at h
  exact call_w (df := f13) rfl rfl (w_iffF (S1 := S) (rt_bl (fun _ _ => rfl) (re_cmp (re_sub rfl rfl (sub0t _ _)) rfl (congrArg (fun q => some (D.bl q)) (decide_eq_false hd)))) (w_nil (w_ret (re_met rfl rfl (res_cons h res_nil) (fun _ => by simp) (join_ok (Nat.le_trans hs (by decide)))))))
/-! the law's own text -/
def txB : List Sm := [.asg (.nm 3) (.ife (.isi (.var 2) .tTup) (.met .join (.cst (.str [44])) [(.lc (.bif .str [(.var 7)]) (.nm 7) (.var 2) [] [7])]) (.bif .str [(.var 2)])), .expr (.met .append (.var 1) [(.ife (.cmp .Eq (.var 3) (.cst (.str []))) (.cst (.str [46])) (.var 3))])]
theorem text_loop (d : Nat) {S0 : Sto} {x : D} {k : EnvD → Sto → R D} : ∀ (ps : List D) (acc : List (List Nat)) (n i : Nat) (e2 e3 : Option D) (res : List Nat), (∀ y ∈ ps, SP y) → acc.length + ps.length ≤ 1000 →
    (∀ e2 e3, k [some x, some (.ref S0.length), e2, e3, none, none, none, none, none] (S0 ++ [.lst ((acc ++ ps.map wordT).map .str)]) = .ok (.str res) (S0 ++ [.lst ((acc ++ ps.map wordT).map .str)])) →
    thenR (evF ⟨callD G d, lamD G d, G.sub, fun _ => .bad, none⟩ (n + 1000 + ps.length) (.nm 2) txB (.fix ps) i [some x, some (.ref S0.length), e2, e3, none, none, none, none, none] (S0 ++ [.lst (acc.map .str)])) k = .ok (.str res) (S0 ++ [.lst ((acc ++ ps.map wordT).map .str)]) := by
  intro ps
  induction ps with
  | nil =>
    intro acc n i e2 e3 res _ _ hk
    have e : acc ++ ([] : List D).map wordT = acc := List.append_nil _
    rw [e] at hk ⊢
    exact w_fnil (hk e2 e3)
  | cons y ps ih =>
    intro acc n i e2 e3 res hp hl hk
    rw [List.length_cons] at hl
    have ea : acc ++ (y :: ps).map wordT = (acc ++ [wordT y]) ++ ps.map wordT := by simp
    rw [ea] at hk ⊢
    have ih := fun e2 e3 => ih (acc ++ [wordT y]) n (i + 1) e2 e3 res (fun z hz => hp z (List.mem_cons_of_mem _ hz)) (by rw [List.length_append, List.length_singleton]; omega) hk
    have hm : 1000 ≤ n + 1000 + ps.length := by omega
    show thenR (evF _ (n + 1000 + ps.length + 1) (.nm 2) txB (.fix (y :: ps)) i _ _) k = _
    revert ih hm
    generalize n + 1000 + ps.length = m
    intro ih hm
    obtain ⟨m, rfl⟩ : ∃ m', m = m' + 1000 := ⟨m - 1000, by omega⟩
    have hy := hp y (List.mem_cons_self ..)
    have told : evE ⟨callD G d, lamD G d, G.sub, fun _ => .bad, none⟩ (m + 998) (.ife (.isi (.var 2) .tTup) (.met .join (.cst (.str [44])) [(.lc (.bif .str [(.var 7)]) (.nm 7) (.var 2) [] [7])]) (.bif .str [(.var 2)])) [some x, some (.ref S0.length), some y, e3, none, none, none, none, none] (S0 ++ [.lst (acc.map .str)]) = .ok (.str (toldT y)) (S0 ++ [.lst (acc.map .str)]) := by
      cases hy with
      | str w h1 h2 h3 => exact re_iteF (S1 := S0 ++ [SO.lst (acc.map D.str)]) rfl rfl
      | int i h1 => exact re_iteF (S1 := S0 ++ [SO.lst (acc.map D.str)]) rfl (re_bif (ds := [.int i]) rfl (str_ok h1))
      | tup is h1 h2 =>
        have e0 : toldT (.tup (is.map .int)) = joinL [44] (is.map showInt) := by
          show joinL [44] (numsT (is.map .int)) = _
          rw [numsT_map]
        rw [e0]
        exact re_iteT (S1 := S0 ++ [SO.lst (acc.map D.str)]) rfl (re_met (ds := [.lst ((is.map showInt).map .str)]) rfl rfl (res_cons (str_comp h1 h2 rfl rfl (Nat.le_of_ble_eq_true rfl) (by omega)) res_nil) (fun _ => by simp) (join_ok (sum6 h1 h2)))
    refine w_fcons rfl ?_
    unfold txB
    refine w_asg (S1 := S0 ++ [SO.lst (acc.map D.str)]) (d := .str (toldT y)) told rfl (w_expr (re_mets rfl rfl (res_cons (d := .str (wordT y)) (re_ite2 (q := decide (toldT y = [])) (rt_bl (fun _ _ => rfl) (re_cmp rfl rfl rfl)) (fun hq => ?_) (fun hq => ?_)) res_nil) (app_ok (acc := acc.map D.str) (by rw [List.length_map]; unfold LINE; omega))) (w_nil ?_))
    · unfold wordT
      rw [if_pos (of_decide_eq_true hq)]
      rfl
    · unfold wordT
      rw [if_neg (of_decide_eq_false hq)]
      rfl
    · have e : acc.map D.str ++ [D.str (wordT y)] = (acc ++ [wordT y]).map .str := by simp
      rw [e]
      exact ih _ _
theorem law_text_ok (d : Nat) {w0 : List Nat} {ps : List D} (hd : w0 ≠ wDeed) (h0 : w0.length ≤ 8) (hp : ∀ y ∈ ps, SP y) (hl : ps.length ≤ 4) (S : Sto) : ∃ T, callD G (d + 1) 24 [.tup (.str w0 :: ps)] S = .ok (.str (textT w0 ps)) (S ++ T) := by
  have hs := sum_words h0 hp hl
  obtain ⟨m, hm⟩ : ∃ m, 899996 = m + 1000 + ps.length := ⟨898996 - ps.length, by omega⟩
  have L := text_loop d (S0 := S) (x := .tup (.str w0 :: ps)) (k := fun env S => thenR (evSs ⟨callD G d, lamD G d, G.sub, fun _ => .bad, none⟩ 899997 [.ret (.met .join (.cst (.str [32])) [(.var 1)])] env S) (fun _ S => .ok .non S)) ps [w0] m 0 none none (textT w0 ps) hp (by rw [List.length_singleton]; omega) (fun e2 e3 => w_ret (re_met (ds := [.ref S.length]) rfl rfl rfl (fun _ => by simp) (by
    have e : (S ++ [SO.lst (([w0] ++ ps.map wordT).map .str)])[S.length]? = some (.lst (([w0] ++ ps.map wordT).map .str)) := by simp
    show metD .join (.str [32]) [D.look (.ref S.length) _] = _
    rw [look_ref e]
    exact join_ok (Nat.le_trans hs (by decide)))))
  rw [← hm] at L
  exact ⟨_, call_w (df := f24) rfl rfl (w_iffF (S1 := S) (rt_bl (fun _ _ => rfl) (re_cmp (re_sub rfl rfl (sub0t _ _)) rfl (congrArg (fun q => some (D.bl q)) (decide_eq_false hd)))) (w_nil (w_asg (S1 := S ++ [SO.lst [D.str w0]]) (d := .ref S.length) (re_new (re_lst (res_cons (re_sub (x := .tup (.str w0 :: ps)) rfl rfl (sub0t _ _)) res_nil))) rfl (w_for (S1 := S ++ [SO.lst [D.str w0]]) (ri_e (fun _ _ => rfl) (re_slc rfl rfl rfl rfl rfl (congrArg (fun l => some (D.tup l)) (cut1t (.str w0) ps))) rfl) L))))⟩
theorem law_text_deed (d : Nat) (t : List Nat) (S : Sto) : callD G (d + 1) 24 [.tup [.str wDeed, .str t]] S = .ok (.str t) S :=
  call_w (df := f24) rfl rfl (w_iffT (S1 := S) rfl (w_ret rfl))
theorem text_by_deed (d : Nat) (t : List Nat) (S : Sto) : callD G (d + 1) 13 [.tup [.str wDeed, .str t]] S = .ok (.str t) S :=
  call_w (df := f13) rfl rfl (w_iffT (S1 := S) rfl (w_ret rfl))
end Ev.K95
set_option Elab.async false
set_option linter.all false
set_option autoImplicit false
set_option maxRecDepth 100000
set_option maxHeartbeats 4000000
/-! K95z: the plain law of k95: right parts, command_text. -/
namespace Ev.K95
open PySem PySem.Spec PyProof.Rows L2 TL Ev Ev.Ru NumText
inductive PL : D → Prop
  | non : PL .non
  | bl (b : Bool) : PL (.bl b)
  | int (i : Int) : PL (.int i)
  | str (w : List Nat) : w.length ≤ 1000 → PL (.str w)
  | tup (is : List Int) : is.length ≤ 1000 → PL (.tup (is.map .int))
def numB : D → Bool
  | .int i => decide (-1000000000000 ≤ i) && decide (i ≤ 1000000000000)
  | _ => false
def wprS (kd : Nat) (y : D) : Bool := if kd = 110 then (match y with
    | .str w => nameS w
    | _ => false) else if kd = 99 then (match y with
    | .int i => decide (0 ≤ i) && decide (i < 1000000000)
    | _ => false) else (match y with
    | .tup xs => !decide ((6 : Int) < xs.length) && xs.all numB
    | _ => false)
theorem wpr_ok (d : Nat) {kd : Nat} (hk : kd = 110 ∨ kd = 99 ∨ kd = 97) {y : D} (h : PL y) (S : Sto) : callD G (d + 4) 10 [.str [kd], y] S = .ok (.bl (wprS kd y)) S := by
  rcases hk with rfl | rfl | rfl
  · have hn : callD G (d + 3) 3 [y] S = .ok (.bl (wprS 110 y)) S := by
      cases h with
      | non => rfl
      | bl b => rfl
      | int i => rfl
      | str w hw => exact is_name_str (d + 2) w S hw
      | tup is his => rfl
    exact call_w (df := f10) rfl rfl (w_iffT (S1 := S) rfl (w_ret (re_call rfl rfl hn)))
  · have hn : ∃ q, callD G (d + 3) 2 [y] S = .ok (.bl q) S ∧ ((q = false ∧ wprS 99 y = false) ∨ ∃ i : Int, y = .int i ∧ q = decide (0 ≤ i)) := by
      cases h with
      | non => exact ⟨false, rfl, .inl ⟨rfl, rfl⟩⟩
      | bl b => exact ⟨false, rfl, .inl ⟨rfl, rfl⟩⟩
      | int i => exact ⟨_, is_count_int (d + 1) i S, .inr ⟨i, rfl, rfl⟩⟩
      | str w hw => exact ⟨false, rfl, .inl ⟨rfl, rfl⟩⟩
      | tup is his => exact ⟨false, rfl, .inl ⟨rfl, rfl⟩⟩
    obtain ⟨q, h1, h2⟩ := hn
    refine call_w (df := f10) rfl rfl (w_iffF (S1 := S) rfl (w_nil (w_iffT (S1 := S) rfl (w_ret ?_))))
    rcases h2 with ⟨rfl, e⟩ | ⟨i, rfl, rfl⟩
    · rw [e]
      exact re_andF (re_call rfl rfl h1) rfl
    · exact re_and (re_call rfl rfl h1) (fun _ => re_cmp rfl rfl rfl)
  · refine call_w (df := f10) rfl rfl (w_iffF (S1 := S) rfl (w_nil (w_iffF (S1 := S) rfl (w_nil ?_))))
    cases h with
    | non => exact w_iffT (S1 := S) rfl (w_ret rfl)
    | bl b => exact w_iffT (S1 := S) rfl (w_ret rfl)
    | int i => exact w_iffT (S1 := S) rfl (w_ret rfl)
    | str w hw => exact w_iffT (S1 := S) rfl (w_ret rfl)
    | tup is his =>
      refine (w_guard (q := decide ((6 : Int) < ((is.map D.int).length : Nat))) (S1 := S) (S2 := S) (x := .bl false) (r := .ok (.bl ((is.map D.int).all numB)) S) (rt_orF rfl (rt_bl (fun _ _ => rfl) (re_cmp rfl rfl rfl))) (fun _ => rfl) (fun _ => ?_)).trans ?_
      · refine w_ret (re_bif (res_cons (re_vals (m := 4) (w := is.map .int) (g := fun y => .bl (numB y)) rfl rfl (Nat.le_of_ble_eq_true rfl) (fun x hx k => ?_) (by rw [List.length_map]; omega) (by rw [List.length_map]; unfold LINE; omega)) res_nil) (all_map _))
        obtain ⟨i, hi, rfl⟩ := List.mem_map.mp hx
        exact re_call rfl rfl (is_number_int d i S)
      · show _ = R.ok (D.bl (!decide ((6 : Int) < ((is.map D.int).length : Nat)) && (is.map D.int).all numB)) S
        cases decide ((6 : Int) < ((is.map D.int).length : Nat)) <;> rfl
def zipR : List Nat → List D → List Bool
  | k :: f, y :: r => wprS k y :: zipR f r
  | _, _ => []
theorem zipR_map : ∀ (f : List Nat) (ps : List D), (zipD (f.map fun c => D.str [c]) ps).map (fun d => match d with
      | .tup [.str [k], y] => .bl (wprS k y)
      | _ => .non) = (zipR f ps).map D.bl
  | [], _ => rfl
  | _ :: _, [] => rfl
  | k :: f, w :: r => congrArg (D.bl (wprS k w) :: ·) (zipR_map f r)
theorem zipR_mem : ∀ (f : List Nat) (r : List D) (x : D), x ∈ zipD (f.map fun c => D.str [c]) r → ∃ k ∈ f, ∃ w ∈ r, x = .tup [.str [k], w]
  | [], _, x, h => by cases h
  | _ :: _, [], x, h => by cases h
  | k :: f, w :: r, x, h => by
    rcases List.mem_cons.mp h with rfl | h
    · exact ⟨k, List.mem_cons_self .., w, List.mem_cons_self .., rfl⟩
    · obtain ⟨k', hk, w', hw, e⟩ := zipR_mem f r x h
      exact ⟨k', List.mem_cons_of_mem _ hk, w', List.mem_cons_of_mem _ hw, e⟩
theorem zip_rights (d : Nat) {S : Sto} {n i : Nat} {f : List Nat} {r : List D} {e0 e1 e2 e3 e4 e5 e6 e7 : Option D} (hr : ∀ w ∈ r, PL w) (hf : f.length ≤ 4) (hfc : ∀ c ∈ f, c = 110 ∨ c = 99 ∨ c = 97) (hn : 2000 ≤ n) :
    evL ⟨callD G (d + 4), lamD G (d + 4), G.sub, fun _ => .bad, none⟩ n (.call 10 [(.var 3), (.var 5)] []) (.tup [.nm 3, .nm 5]) [] (.fix (zipD (f.map fun c => D.str [c]) r)) i [e0, e1, e2, e3, e4, e5, e6, e7] S = .ok ((zipR f r).map D.bl) S := by
  have h := rL_any (P := ⟨callD G (d + 4), lamD G (d + 4), G.sub, fun _ => .bad, none⟩) (e := .call 10 [(.var 3), (.var 5)] []) (tg := .tup [.nm 3, .nm 5]) (env := [e0, e1, e2, e3, e4, e5, e6, e7]) (S := S) (m := 8) (g := fun d => match d with
      | .tup [.str [k], y] => .bl (wprS k y)
      | _ => .non) (zipD (f.map fun c => D.str [c]) r) n i (fun x hx => by
    obtain ⟨k, hk, w, hw, rfl⟩ := zipR_mem f r x hx
    exact ⟨_, rfl, fun k' => re_call (res_cons (re_var rfl) (res_cons (re_var rfl) res_nil)) rfl (wpr_ok d (hfc k hk) (hr w hw) S)⟩) (by
    have := zipD_len (f.map fun c => D.str [c]) r
    rw [List.length_map] at this
    omega)
  rw [zipR_map] at h
  exact h
theorem bls_of (bs : List Bool) : bifD .all [.lst (bs.map D.bl)] = some (.bl (bs.all id)) := all_map (g := id) bs
def rightS (w0 : List Nat) (ps : List D) : Bool := match formS w0 ps.length with
  | none => false
  | some f => (zipR f ps).all id
def prB : List Sm := [.iff (.cmp .Eq (.bif .len [(.var 0)]) (.bop .Add (.bif .len [(.var 1)]) (.cst (.int (1))))) [.ret (.bif .all [(.lc (.call 10 [(.var 3), (.var 5)] []) (.tup [.nm 3, .nm 5]) (.zip (.var 1) (.slc (.var 0) (.cst (.int (1))) (.cst (.non)))) [] [3, 5])])] []]
theorem right_loop (d : Nat) {w0 : List Nat} {r : List D} {S : Sto} {k : EnvD → Sto → R D} (hr : ∀ w ∈ r, PL w) (hrl : r.length ≤ 1000) (hk : ∀ e1, k [some (.tup (.str w0 :: r)), e1, none, none, none, none, none, none] S = .ok (.bl false) S) :
    ∀ (fs : List (List Nat)) (n i : Nat) (e1 : Option D), (∀ f ∈ fs, f.length ≤ 4 ∧ ∀ c ∈ f, c = 110 ∨ c = 99 ∨ c = 97) → thenR (evF ⟨callD G (d + 4), lamD G (d + 4), G.sub, fun _ => .bad, none⟩ (n + 5000 + fs.length) (.nm 1) prB (.fix (fs.map .str)) i [some (.tup (.str w0 :: r)), e1, none, none, none, none, none, none] S) k
      = .ok (.bl (match fs.find? fun f => decide (r.length = f.length) with
        | none => false
        | some f => (zipR f r).all id)) S := by
  intro fs
  induction fs with
  | nil => intro n i e2 hf; exact w_fnil (hk e2)
  | cons f fs ih =>
    intro n i e2 hf
    have ih := ih n (i + 1) (some (.str f)) (fun g hg => hf g (List.mem_cons_of_mem _ hg))
    have hf4 := hf f (List.mem_cons_self ..)
    have hm : 5000 ≤ n + 5000 + fs.length := by omega
    show thenR (evF _ (n + 5000 + fs.length + 1) (.nm 1) prB (.fix (.str f :: fs.map .str)) i _ S) k = _
    revert ih hm
    generalize n + 5000 + fs.length = m
    intro ih hm
    obtain ⟨m, rfl⟩ : ∃ m', m = m' + 5000 := ⟨m - 5000, by omega⟩
    by_cases h : r.length = f.length
    · rw [List.find?_cons_of_pos (by exact decide_eq_true h)]
      have hc : (some (D.bl ((((D.str w0 :: r).length : Nat) : Int) == ((f.length : Nat) : Int) + 1)) : Option D) = some (.bl true) := by
        simp [h]
      refine w_fcons rfl ?_
      unfold prB
      have hz := zipD_len (f.map fun c => D.str [c]) r
      rw [List.length_map] at hz
      have hz2 : ((zipR f r).map D.bl).length ≤ 4 := by
        rw [← zipR_map, List.length_map]
        omega
      exact w_iffT (S1 := S) (rt_bl (fun _ _ => rfl) (re_cmp rfl rfl hc)) (w_ret (re_bif (res_cons (re_lc2 (ri_zip (re_var rfl) (re_slc rfl rfl rfl rfl rfl (congrArg (fun l => some (D.tup l)) (cut1t (.str w0) r))) rfl rfl) rfl (zip_rights d hr hf4.1 hf4.2 (by omega)) (by unfold LINE; omega)) res_nil) (bls_of _)))
    · rw [List.find?_cons_of_neg (by exact fun z => h (of_decide_eq_true z))]
      have hc : (some (D.bl ((((D.str w0 :: r).length : Nat) : Int) == ((f.length : Nat) : Int) + 1)) : Option D) = some (.bl false) := by
        have : ¬ ((r.length : Int) = f.length) := by omega
        simp [h, this]
      refine w_fcons rfl ?_
      unfold prB
      exact (w_iffF (S1 := S) (rt_bl (fun _ _ => rfl) (re_cmp rfl rfl hc)) (w_nil ih))
theorem forms_few (w : List Nat) : (formsS w).length ≤ 2 := by
  unfold formsS
  cases h : (FKS.zip FVS).find? fun p => decide (p.1 = w) with
  | none => exact Nat.zero_le _
  | some p =>
    have hm := List.mem_of_find?_eq_some h
    have : ∀ p ∈ FKS.zip FVS, p.2.length ≤ 2 := by decide
    exact this p hm
theorem right_ok (d : Nat) {w0 : List Nat} {r : List D} (hd : w0 ≠ wDeed) (hr : ∀ w ∈ r, PL w) (hrl : r.length ≤ 1000) (S : Sto) : callD G (d + 5) 11 [.tup (.str w0 :: r)] S = .ok (.bl (rightS w0 r)) S := by
  have hfew := forms_few w0
  have L := right_loop d (w0 := w0) (r := r) (S := S) (k := fun env S => thenR (evSs ⟨callD G (d + 4), lamD G (d + 4), G.sub, fun _ => .bad, none⟩ 899997 [.ret (.cst (.bl false))] env S) (fun _ S => .ok .non S)) hr hrl (fun e1 => w_ret rfl) (formsS w0) (894996 - (formsS w0).length) 0 none (forms_chars w0)
  rw [show 894996 - (formsS w0).length + 5000 + (formsS w0).length = 899996 by omega] at L
  have h0 : (some (D.bl ((((D.str w0 :: r).length : Nat) : Int) == 0)) : Option D) = some (.bl false) := by
    have : ¬ ((r.length : Int) + 1 = 0) := by omega
    simp [this]
  exact call_w (df := f11) rfl rfl (w_iffF (S1 := S) (rt_orF (S1 := S) rfl (rt_orF (S1 := S) (rt_bl (fun _ _ => rfl) (re_cmp (o := .Eq) (S1 := S) (x := .int (((D.str w0 :: r).length : Nat) : Int)) (y := .int 0) rfl rfl h0)) (rt_not (q := true) (rt_bl (fun _ _ => rfl) (re_isi (x := .str w0) (re_sub rfl rfl (sub0t _ _)) rfl))))) (w_nil
    (w_iffF (S1 := S) (rt_bl (fun _ _ => rfl) (re_cmp (x := .str w0) (re_sub rfl rfl (sub0t _ _)) rfl (congrArg (fun q => some (D.bl q)) (decide_eq_false hd)))) (w_nil
    (w_for (S1 := S) (src := .fix ((formsS w0).map .str)) (ri_e (fun _ _ => rfl) (re_met rfl rfl (res_cons (re_sub rfl rfl (sub0t _ _)) (res_cons rfl res_nil)) (fun _ => by simp) (get_forms w0)) rfl) L)))))
theorem right_deed (d : Nat) {t : List Nat} (h : isDeed t = true) (S : Sto) : callD G (d + 5) 11 [.tup [.str wDeed, .str t]] S = .ok (.bl true) S :=
  call_w (df := f11) rfl rfl (w_iffF (S1 := S) rfl (w_nil (w_iffT (S1 := S) rfl (w_ret (re_andT rfl rfl (re_andT rfl rfl (re_cmp (re_slc rfl rfl rfl rfl rfl rfl) rfl (congrArg (fun q => some (D.bl q)) h))))))))
theorem text_ok (d : Nat) {v : D} {t : D} {S : Sto} (h : callD G (d + 5) 11 [v] S = .ok (.bl true) S) (h2 : callD G (d + 5) 13 [v] S = .ok t S) : callD G (d + 6) 15 [v] S = .ok t S :=
  call_w (df := f15) rfl rfl (w_iffF (S1 := S) (rt_not (q := true) (rt_bl (fun _ _ => rfl) (re_call rfl rfl h))) (w_nil (w_ret (re_call rfl rfl h2))))
theorem text_no (d : Nat) {v : D} {S : Sto} (h : callD G (d + 5) 11 [v] S = .ok (.bl false) S) : callD G (d + 6) 15 [v] S = .exc 1 [v] S :=
  call_w (df := f15) rfl rfl (w_iffT (S1 := S) (rt_not (q := false) (rt_bl (fun _ _ => rfl) (re_call rfl rfl h))) (w_rai rfl))
def heardD (v : D) : D := .lst [.str [112, 97, 114, 116, 115], v, .bl true]
theorem rss_exc {P : Pg} {n : Nat} {s : Sm} {ss : List Sm} {env env1 : EnvD} {S S1 : Sto} {c : Nat} {fs : List D} (h1 : evS P n s env S = .exc c fs env1 S1) : evSs P (n + 1) (s :: ss) env S = .exc c fs env1 S1 := by
  conv => lhs; unfold evSs
  simp only [h1]
theorem w_try {P : Pg} {n c k : Nat} {b hh ss : List Sm} {slot : Option Nat} {env env1 env2 : EnvD} {S S1 S2 : Sto} {fs : List D} {kk : EnvD → Sto → R D} {r : R D} (h1 : evSs P n b env S = .exc k fs env1 S1) (h2 : P.sub k c = true) (h3 : slotOk slot env1 = true)
    (h4 : evSs { P with exn := some (k, fs) } n hh (slotD slot env1) S1 = .ok .nx env2 S2) (h5 : thenR (evSs P (n + 1) ss (slotD slot env2) S2) kk = r) : thenR (evSs P (n + 2) (.try_ b c slot hh :: ss) env S) kk = r := by
  have hx : evS P (n + 1) (.try_ b c slot hh) env S = .ok .nx (slotD slot env2) S2 := by
    unfold evS
    simp only [h1, h2, h3, h4, if_true]
  rw [w_seq, hx]
  exact h5
theorem heard_ok (d : Nat) {v : D} {th : Sto → R D} {S : Sto} (h : th S = .exc 1 [v] S) : lamD G (d + 1) 19 th S = .ok (heardD v) S := by
  have hb : ∀ {n : Nat} {env : EnvD}, evSs ⟨callD G d, lamD G d, G.sub, th, none⟩ (n + 3) [.asg (.nm 1) .thk] env S = .exc 1 [v] env S := fun {n env} => by
    refine rss_exc ?_
    unfold evS
    show RS.at_ (th S) env _ = _
    rw [h]
    rfl
  have hw : thenR (evSs ⟨callD G d, lamD G d, G.sub, th, none⟩ FUEL f19.body (none :: List.replicate (f19.slots - 1) none) S) (fun _ S => .ok .non S) = .ok (heardD v) S :=
    w_asg (S1 := S) rfl rfl (w_try hb rfl rfl rfl (w_ret rfl))
  exact w_end hw
theorem re_lam {P : Pg} {n f : Nat} {b : Ex} {env : EnvD} {S : Sto} {r : R D} (h : P.lam f (fun S => evE P n b env S) S = r) : evE P (n + 1) (.lam f b) env S = r := by
  unfold evE
  exact h
/-! the drawn parts: what is right with them, what is wrong with the bent ones -/
theorem pset_sp {w0 : List Nat} {ps : List D} (h : PSet w0 ps) (hd : w0 ≠ wDeed) : (∀ y ∈ ps, SP y) ∧ ps.length ≤ 4 ∧ w0 ≠ [] ∧ w0.length ≤ 8 ∧ (∀ c ∈ w0, 97 ≤ c ∧ c ≤ 122) ∧ w0.head? ≠ some 100 := by
  have wd : ∀ w ∈ WDS, w ≠ wDeed → w ≠ [] ∧ w.length ≤ 8 ∧ (∀ c ∈ w, 97 ≤ c ∧ c ≤ 122) ∧ w.head? ≠ some 100 := by decide
  cases h with
  | oa w0 a b is h1 h2 h3 h4 h5 =>
    have : ∀ w ∈ OAS, w ∈ WDS := by decide
    refine ⟨fun y hy => ?_, Nat.le_of_ble_eq_true rfl, wd _ (this _ h1) hd⟩
    simp only [List.mem_cons, List.not_mem_nil, or_false] at hy
    rcases hy with rfl | rfl | rfl
    · exact nm_sp h2
    · exact nm_sp h3
    · exact .tup is h4 h5
  | beat a i h1 h2 h3 =>
    refine ⟨fun y hy => ?_, Nat.le_of_ble_eq_true rfl, wd _ (by decide) hd⟩
    simp only [List.mem_cons, List.not_mem_nil, or_false] at hy
    rcases hy with rfl | rfl
    · exact nm_sp h1
    · exact .int i (by unfold okI; omega)
  | nw w0 a h1 h2 =>
    have : ∀ w ∈ NWS, w ∈ WDS := by decide
    refine ⟨fun y hy => ?_, Nat.le_of_ble_eq_true rfl, wd _ (this _ h1) hd⟩
    simp only [List.mem_cons, List.not_mem_nil, or_false] at hy
    subst hy
    exact nm_sp h2
  | crash is h1 h2 =>
    refine ⟨fun y hy => ?_, by rw [List.length_map]; omega, wd _ (by decide) hd⟩
    obtain ⟨i, hi, rfl⟩ := List.mem_map.mp hy
    have := h2 i hi
    exact .int i (by unfold okI; omega)
  | deed a h1 => exact absurd rfl hd
  | one w0 h1 =>
    have : ∀ w ∈ SNG, w ∈ WDS := by decide
    exact ⟨fun y hy => (by cases hy), by decide, wd _ (this _ h1) hd⟩
theorem sp_pl {y : D} (h : SP y) : PL y := by
  cases h with
  | str w h1 h2 h3 => exact .str w (by omega)
  | int i h1 => exact .int i
  | tup is h1 h2 => exact .tup is (by omega)
theorem text_words {w0 : List Nat} {ps : List D} (hp : ∀ y ∈ ps, SP y) (hw : ∀ c ∈ w0, 97 ≤ c ∧ c ≤ 122) : spl [32] 0 [] (textT w0 ps) = w0 :: ps.map wordT := by
  refine spl_join (List.cons_ne_nil _ _) fun p hp' hm => ?_
  rcases List.mem_cons.mp hp' with rfl | hp'
  · have := hw _ hm
    omega
  · obtain ⟨y, hy, rfl⟩ := List.mem_map.mp hp'
    have := (word_facts (hp y hy)).2.2 _ hm
    omega
theorem text_head {w0 : List Nat} {ps : List D} (h : w0 ≠ []) : (textT w0 ps).head? = w0.head? := by
  unfold textT
  cases ps with
  | nil => rfl
  | cons y r =>
    cases w0 with
    | nil => exact absurd rfl h
    | cons c w => rfl
theorem cut05 (w : List Nat) : cutD w none (some 5) = w.take 5 := by
  unfold cutD HT.sIx
  show ((w.drop 0).take (min (5 : Int).toNat w.length - 0)) = _
  rw [List.drop_zero, Nat.sub_zero]
  show w.take (min 5 w.length) = _
  rw [List.take_eq_take_iff]
  omega
theorem text_nodeed {w0 : List Nat} {ps : List D} (h : w0 ≠ []) (hh : w0.head? ≠ some 100) : isDeed (textT w0 ps) = false := by
  unfold isDeed
  refine decide_eq_false fun z => hh ?_
  rw [← text_head (ps := ps) h]
  rw [cut05] at z
  have : (List.take 5 (textT w0 ps)).head? = some 100 := by rw [z]; rfl
  cases ht : textT w0 ps with
  | nil => rw [ht] at this; cases this
  | cons c r =>
    rw [ht] at this
    exact this
theorem parse_text {w0 : List Nat} {ps : List D} (h : PSet w0 ps) (hd : w0 ≠ wDeed) : parseS (textT w0 ps) = wordsS (w0 :: ps.map wordT) := by
  obtain ⟨h1, h2, h3, h4, h5, h6⟩ := pset_sp h hd
  unfold parseS
  rw [text_nodeed h3 h6, text_words h1 h5]
  rfl
theorem nm_word {a : List Nat} (h : isNm a) : wordT (.str a) = a := if_neg (fun z => by
  have := h.1
  rw [show a = [] from z] at this
  cases this)
theorem part_n {a : List Nat} (h : isNon (partS 110 a) = false) : nameS a = true := by
  unfold partS at h
  rw [if_pos rfl] at h
  cases e : nameS a with
  | true => rfl
  | false =>
    rw [e] at h
    cases h
theorem res_non {w0 : List Nat} {ps : List D} (h : isNon (resS w0 ps) = false) : ps.any isNon = false := by
  unfold resS at h
  cases e : ps.any isNon with
  | false => rfl
  | true =>
    rw [e] at h
    cases h
theorem wpr_int {i : Int} (h0 : 0 ≤ i) (h1 : i < 1000000000) : wprS 99 (.int i) = true := by
  show (decide (0 ≤ i) && decide (i < 1000000000)) = true
  rw [decide_eq_true h0, decide_eq_true h1]
  rfl
theorem oas_form {w0 : List Nat} (h : w0 ∈ OAS) : formsS w0 = [[110, 110, 97]] := by
  have : ∀ w ∈ OAS, formsS w = [[110, 110, 97]] := by decide
  exact this w0 h
theorem nws_form {w0 : List Nat} (h : w0 ∈ NWS) : formsS w0 = [[110]] := by
  have : ∀ w ∈ NWS, formsS w = [[110]] := by decide
  exact this w0 h
theorem sng_form {w0 : List Nat} (h : w0 ∈ SNG) : formsS w0 = [[]] := by
  have : ∀ w ∈ SNG, formsS w = [[]] := by decide
  exact this w0 h
theorem pset_right {w0 : List Nat} {ps : List D} (h : PSet w0 ps) (hd : w0 ≠ wDeed) (hn : isNon (wordsS (w0 :: ps.map wordT)) = false) : rightS w0 ps = true := by
  rw [words_cons] at hn
  unfold rightS
  unfold formS at hn ⊢
  cases h with
  | oa w0 a b is h1 h2 h3 h4 h5 =>
    rw [oas_form h1] at hn ⊢
    have hn : isNon (resS w0 (zipP [110, 110, 97] [wordT (.str a), wordT (.str b), wordT (.tup (is.map .int))])) = false := hn
    have hn := res_non hn
    rw [nm_word h2, nm_word h3] at hn
    have hn : (isNon (partS 110 a) || (isNon (partS 110 b) || _)) = false := hn
    obtain ⟨ha, hn⟩ := Bool.or_eq_false_iff.mp hn
    obtain ⟨hb, hn⟩ := Bool.or_eq_false_iff.mp hn
    show (nameS a && (nameS b && ((!decide ((6 : Int) < ((is.map D.int).length : Nat)) && (is.map D.int).all numB) && true))) = true
    rw [part_n ha, part_n hb, decide_eq_false (by rw [List.length_map]; omega)]
    simp only [Bool.not_false, Bool.true_and, Bool.and_true]
    rw [List.all_eq_true]
    intro y hy
    obtain ⟨i, hi, rfl⟩ := List.mem_map.mp hy
    have := h5 i hi
    unfold okI at this
    show (decide _ && decide _) = true
    rw [decide_eq_true this.1, decide_eq_true this.2]
    rfl
  | beat a i h1 h2 h3 =>
    have hn : isNon (resS wBeat (zipP [110, 99] [wordT (.str a), wordT (.int i)])) = false := hn
    have hn := res_non hn
    rw [nm_word h1] at hn
    have hn : (isNon (partS 110 a) || _) = false := hn
    obtain ⟨ha, hn⟩ := Bool.or_eq_false_iff.mp hn
    show (nameS a && (wprS 99 (.int i) && true)) = true
    rw [part_n ha, wpr_int h2 h3]
    rfl
  | nw w0 a h1 h2 =>
    rw [nws_form h1] at hn ⊢
    have hn : isNon (resS w0 (zipP [110] [wordT (.str a)])) = false := hn
    have hn := res_non hn
    rw [nm_word h2] at hn
    have hn : (isNon (partS 110 a) || _) = false := hn
    obtain ⟨ha, hn⟩ := Bool.or_eq_false_iff.mp hn
    show (nameS a && true) = true
    rw [part_n ha]
    rfl
  | crash is h1 h2 =>
    have hw : ∀ i ∈ is, wprS 99 (.int i) = true := fun i hi => wpr_int (h2 i hi).1 (by have := h2 i hi; omega)
    rcases h1 with h1 | h1
    · match is, h1, hw with
      | [i, j], _, hw =>
        show (wprS 99 (.int i) && (wprS 99 (.int j) && true)) = true
        rw [hw i (by simp), hw j (by simp)]
        rfl
    · match is, h1, hw with
      | [i, j, k, l], _, hw =>
        show (wprS 99 (.int i) && (wprS 99 (.int j) && (wprS 99 (.int k) && (wprS 99 (.int l) && true)))) = true
        rw [hw i (by simp), hw j (by simp), hw k (by simp), hw l (by simp)]
        rfl
  | deed a h1 => exact absurd rfl hd
  | one w0 h1 =>
    rw [sng_form h1]
    rfl
end Ev.K95
set_option Elab.async false
set_option linter.all false
set_option autoImplicit false
set_option maxRecDepth 100000
set_option maxHeartbeats 4000000
/-! K95l: the plain law of k95: the law. -/
namespace Ev.K95
open PySem PySem.Spec PyProof.Rows L2 TL Ev Ev.Ru NumText
theorem dropl (a : D) (r : List D) : cutD (a :: r) none (some (-1)) = (a :: r).dropLast := by
  unfold cutD HT.sIx
  show (((a :: r).drop 0).take ((-1 + (((a :: r).length : Nat) : Int)).toNat - 0)) = _
  rw [List.drop_zero, Nat.sub_zero, List.dropLast_eq_take]
  congr 1
  rw [List.length_cons]
  omega
def bents (w0 : List Nat) (ps : List D) : List D := [.non, .int 0, .tup [], .lst (.str w0 :: ps), .tup ((.str w0 :: ps) ++ [.int 0]), .tup [.str [117, 110, 100, 111]], .tup ((.str w0 :: ps).dropLast ++ [.non]), .tup ((.str w0 :: ps).dropLast ++ [.bl true]), .tup [.str [98, 101, 97, 116], .str [120], .int (-1)], .tup [.str [111, 112, 101, 110], .str [120], .str [108, 101, 116], .tup []], .tup [.str [99, 114, 97, 115, 104], .int 1]]
theorem right_more {w0 : List Nat} {ps : List D} (h : PSet w0 ps) (hd : w0 ≠ wDeed) : rightS w0 (ps ++ [.int 0]) = false := by
  unfold rightS formS
  cases h with
  | oa w0 a b is h1 h2 h3 h4 h5 =>
    rw [oas_form h1]
    rfl
  | beat a i h1 h2 h3 => rfl
  | nw w0 a h1 h2 =>
    rw [nws_form h1]
    rfl
  | crash is h1 h2 =>
    rcases h1 with h1 | h1
    · match is, h1 with
      | [i, j], _ => rfl
    · match is, h1 with
      | [i, j, k, l], _ => rfl
  | deed a h1 => exact absurd rfl hd
  | one w0 h1 =>
    rw [sng_form h1]
    rfl
theorem right_last {w0 : List Nat} {ps : List D} (h : PSet w0 ps) (hd : w0 ≠ wDeed) (hn : ps ≠ []) {y : D} (hy : wprS 110 y = false ∧ wprS 99 y = false ∧ wprS 97 y = false) : rightS w0 (ps.dropLast ++ [y]) = false := by
  obtain ⟨y1, y2, y3⟩ := hy
  unfold rightS formS
  cases h with
  | oa w0 a b is h1 h2 h3 h4 h5 =>
    rw [oas_form h1]
    show (nameS a && (nameS b && (wprS 97 y && true))) = false
    rw [y3]
    simp
  | beat a i h1 h2 h3 =>
    show (nameS a && (wprS 99 y && true)) = false
    rw [y2]
    simp
  | nw w0 a h1 h2 =>
    rw [nws_form h1]
    show (wprS 110 y && true) = false
    rw [y1]
    rfl
  | crash is h1 h2 =>
    rcases h1 with h1 | h1
    · match is, h1 with
      | [i, j], _ =>
        show (wprS 99 (.int i) && (wprS 99 y && true)) = false
        rw [y2]
        simp
    · match is, h1 with
      | [i, j, k, l], _ =>
        show (wprS 99 (.int i) && (wprS 99 (.int j) && (wprS 99 (.int k) && (wprS 99 y && true)))) = false
        rw [y2]
        simp
  | deed a h1 => exact absurd rfl hd
  | one w0 h1 => exact absurd rfl hn
theorem bents_no (d : Nat) {w0 : List Nat} {ps : List D} (h : PSet w0 ps) (S : Sto) : ∀ v ∈ bents w0 ps, callD G (d + 5) 11 [v] S = .ok (.bl false) S := by
  intro v hv
  unfold bents at hv
  simp only [List.mem_cons, List.not_mem_nil, or_false] at hv
  have more : callD G (d + 5) 11 [.tup ((.str w0 :: ps) ++ [.int 0])] S = .ok (.bl false) S := by
    by_cases hd : w0 = wDeed
    · subst hd
      cases h with
      | oa w0 a b is h1 h2 h3 h4 h5 => exact absurd h1 (by decide)
      | nw w0 a h1 h2 => exact absurd h1 (by decide)
      | deed a h1 => rfl
      | one w0 h1 => exact absurd h1 (by decide)
    · obtain ⟨h1, h2, _⟩ := pset_sp h hd
      have := right_ok d (w0 := w0) (r := ps ++ [.int 0]) hd (fun y hy => by
        rcases List.mem_append.mp hy with hy | hy
        · exact sp_pl (h1 y hy)
        · rw [List.mem_singleton.mp hy]
          exact .int 0) (by rw [List.length_append, List.length_singleton]; omega) S
      rw [right_more h hd] at this
      exact this
  have last : ∀ y, PL y → (callD G (d + 5) 11 [.tup [y]] S = .ok (.bl false) S) → (callD G (d + 5) 11 [.tup [.str wDeed, y]] S = .ok (.bl false) S) → (wprS 110 y = false ∧ wprS 99 y = false ∧ wprS 97 y = false) → callD G (d + 5) 11 [.tup ((.str w0 :: ps).dropLast ++ [y])] S = .ok (.bl false) S := fun y hy q1 q2 q3 => by
    by_cases hd : w0 = wDeed
    · subst hd
      cases h with
      | oa w0 a b is h1 h2 h3 h4 h5 => exact absurd h1 (by decide)
      | nw w0 a h1 h2 => exact absurd h1 (by decide)
      | deed a h1 => exact q2
      | one w0 h1 => exact absurd h1 (by decide)
    · by_cases hn : ps = []
      · subst hn
        exact q1
      · obtain ⟨h1, h2, _⟩ := pset_sp h hd
        have e : (D.str w0 :: ps).dropLast = .str w0 :: ps.dropLast := by
          cases ps with
          | nil => exact absurd rfl hn
          | cons a r => rfl
        have := right_ok d (w0 := w0) (r := ps.dropLast ++ [y]) hd (fun z hz => by
          rcases List.mem_append.mp hz with hz | hz
          · exact sp_pl (h1 z (List.dropLast_subset _ hz))
          · rw [List.mem_singleton.mp hz]
            exact hy) (by rw [List.length_append, List.length_singleton, List.length_dropLast]; omega) S
        rw [right_last h hd hn q3] at this
        rw [e]
        exact this
  rcases hv with rfl | rfl | rfl | rfl | rfl | rfl | rfl | rfl | rfl | rfl | rfl
  · rfl
  · rfl
  · rfl
  · rfl
  · exact more
  · rfl
  · exact last .non .non rfl rfl ⟨rfl, rfl, rfl⟩
  · exact last (.bl true) (.bl true) rfl rfl ⟨rfl, rfl, rfl⟩
  · rfl
  · rfl
  · rfl
/-! their reprs -/
theorem okDs_app : ∀ (xs ys : List D), okDs (xs ++ ys) = (okDs xs && okDs ys)
  | [], ys => rfl
  | x :: xs, ys => by
    show (okD x && okDs (xs ++ ys)) = ((okD x && okDs xs) && okDs ys)
    rw [okDs_app xs ys, Bool.and_assoc]
theorem bnds_app : ∀ (xs ys : List D), bnds (xs ++ ys) = bnds xs + bnds ys
  | [], ys => (Nat.zero_add _).symm
  | x :: xs, ys => by
    show bnd x + 2 + bnds (xs ++ ys) = bnd x + 2 + bnds xs + bnds ys
    rw [bnds_app xs ys]
    omega
theorem deps_app : ∀ (xs ys : List D), deps (xs ++ ys) = max (deps xs) (deps ys)
  | [], ys => (Nat.zero_max _).symm
  | x :: xs, ys => by
    show max (dep x) (deps (xs ++ ys)) = max (max (dep x) (deps xs)) (deps ys)
    rw [deps_app xs ys, Nat.max_assoc]
def Fine (k : Nat) (ys : List D) : Prop := okDs ys = true ∧ bnds ys ≤ k ∧ deps ys ≤ 2
theorem Fine.app {k m : Nat} {xs ys : List D} (h : Fine k xs) (h' : Fine m ys) : Fine (k + m) (xs ++ ys) := by
  obtain ⟨h1, h2, h3⟩ := h
  obtain ⟨g1, g2, g3⟩ := h'
  refine ⟨?_, ?_, ?_⟩
  · rw [okDs_app, h1, g1]
    rfl
  · rw [bnds_app]
    omega
  · rw [deps_app]
    omega
theorem fine_drop {k : Nat} : ∀ {xs : List D}, Fine k xs → Fine k xs.dropLast
  | [], h => h
  | [x], h => ⟨rfl, Nat.zero_le _, Nat.zero_le _⟩
  | x :: y :: r, ⟨h1, h2, h3⟩ => by
    obtain ⟨a1, a2⟩ := Bool.and_eq_true_iff.mp h1
    have b2 : bnd x + 2 + bnds (y :: r) ≤ k := h2
    have c2 : max (dep x) (deps (y :: r)) ≤ 2 := h3
    obtain ⟨g1, g2, g3⟩ := fine_drop (k := k - (bnd x + 2)) (xs := y :: r) ⟨a2, by omega, by omega⟩
    refine ⟨?_, ?_, ?_⟩
    · show (okD x && okDs (y :: r).dropLast) = true
      rw [a1, g1]
      rfl
    · show bnd x + 2 + bnds (y :: r).dropLast ≤ k
      omega
    · show max (dep x) (deps (y :: r).dropLast) ≤ 2
      omega
theorem sp_fine {y : D} (h : SP y) : okD y = true ∧ bnd y ≤ 300 ∧ dep y ≤ 1 := by
  cases h with
  | str w h1 h2 h3 =>
    refine ⟨?_, ?_, Nat.zero_le _⟩
    · show (w.all fun c => decide (c < 1114112)) = true
      rw [List.all_eq_true]
      intro c hc
      exact decide_eq_true (by have := h3 c hc; omega)
    · show 10 * w.length + 2 ≤ 300
      omega
  | int i h1 => exact ⟨decide_eq_true (by unfold okI at h1; omega), (by show 41 ≤ 300; omega), Nat.zero_le _⟩
  | tup is h1 h2 =>
    have h5 : ∀ y ∈ is.map D.int, okD y = true ∧ bnd y ≤ 41 ∧ dep y ≤ 0 := fun y hy => by
      obtain ⟨i, hi, rfl⟩ := List.mem_map.mp hy
      have := h2 i hi
      unfold okI at this
      exact ⟨decide_eq_true (by omega), Nat.le_refl _, Nat.le_refl _⟩
    have h6 := bnds_all fun y hy => (h5 y hy).2.1
    rw [List.length_map] at h6
    refine ⟨okDs_all fun y hy => (h5 y hy).1, ?_, Nat.succ_le_succ (deps_all fun y hy => (h5 y hy).2.2)⟩
    show bnds (is.map D.int) + 3 ≤ 300
    have : (41 + 2) * is.length ≤ 43 * 6 := Nat.mul_le_mul_left _ h1
    omega
theorem deedT_facts {a : List Nat} (h : isNm a) : (deedT a).length ≤ 20 ∧ (∀ c ∈ deedT a, 32 ≤ c ∧ c < 128) ∧ isDeed (deedT a) = true := by
  refine ⟨?_, ?_, ?_⟩
  · unfold deedT
    rw [List.length_append, List.length_append]
    have := h.2.1
    show 5 + a.length + 7 ≤ 20
    omega
  · intro c hc
    unfold deedT at hc
    rcases List.mem_append.mp hc with hc | hc
    · rcases List.mem_append.mp hc with hc | hc
      · have : ∀ c ∈ ([100, 101, 101, 100, 32] : List Nat), 32 ≤ c ∧ c < 128 := by decide
        exact this c hc
      · have : ∀ c ∈ ABX, 32 ≤ c ∧ c < 128 := by decide
        exact this c (h.2.2 c hc)
    · have : ∀ c ∈ ([40, 32, 123, 32, 49, 32, 125] : List Nat), 32 ≤ c ∧ c < 128 := by decide
      exact this c hc
  · unfold isDeed
    rw [cut05]
    unfold deedT
    rw [List.append_assoc]
    exact decide_eq_true (by rfl)
theorem pset_fine {w0 : List Nat} {ps : List D} (h : PSet w0 ps) : Fine 2000 (.str w0 :: ps) ∧ ps.length ≤ 4 := by
  by_cases hd : w0 = wDeed
  · subst hd
    cases h with
    | oa w0 a b is h1 h2 h3 h4 h5 => exact absurd h1 (by decide)
    | nw w0 a h1 h2 => exact absurd h1 (by decide)
    | deed a h1 =>
      obtain ⟨f1, f2, f3⟩ := deedT_facts h1
      refine ⟨⟨?_, ?_, Nat.zero_le _⟩, Nat.le_of_ble_eq_true rfl⟩
      · show (okD (.str wDeed) && (((deedT a).all fun c => decide (c < 1114112)) && true)) = true
        have : ((deedT a).all fun c => decide (c < 1114112)) = true := by
          rw [List.all_eq_true]
          intro c hc
          exact decide_eq_true (by have := f2 c hc; omega)
        rw [this]
        rfl
      · show 42 + 2 + (10 * (deedT a).length + 2 + 2 + 0) ≤ 2000
        omega
    | one w0 h1 => exact absurd h1 (by decide)
  · obtain ⟨h1, h2, h3, h4, h5, h6⟩ := pset_sp h hd
    have f0 := sp_fine (.str w0 h3 h4 h5)
    have h7 := bnds_all fun y hy => (sp_fine (h1 y hy)).2.1
    refine ⟨⟨?_, ?_, ?_⟩, h2⟩
    · show (okD (.str w0) && okDs ps) = true
      rw [f0.1, okDs_all fun y hy => (sp_fine (h1 y hy)).1]
      rfl
    · show bnd (.str w0) + 2 + bnds ps ≤ 2000
      have : (300 + 2) * ps.length ≤ 302 * 4 := Nat.mul_le_mul_left _ h2
      omega
    · exact Nat.max_le.mpr ⟨by omega, deps_all fun y hy => Nat.le_trans (sp_fine (h1 y hy)).2.2 (by decide)⟩
theorem fine_tup {k : Nat} {xs : List D} (h : Fine k xs) (hk : k ≤ 3000) : okD (.tup xs) = true ∧ bnd (.tup xs) ≤ 4000 ∧ dep (.tup xs) ≤ 3 := ⟨h.1, (by show bnds xs + 3 ≤ 4000; have := h.2.1; omega), Nat.succ_le_succ h.2.2⟩
theorem bents_fine {w0 : List Nat} {ps : List D} (h : PSet w0 ps) : ∀ v ∈ bents w0 ps, okD v = true ∧ bnd v ≤ 4000 ∧ dep v ≤ 3 := by
  intro v hv
  have F := (pset_fine h).1
  unfold bents at hv
  simp only [List.mem_cons, List.not_mem_nil, or_false] at hv
  rcases hv with rfl | rfl | rfl | rfl | rfl | rfl | rfl | rfl | rfl | rfl | rfl
  · exact ⟨rfl, by decide, by decide⟩
  · exact ⟨by decide, by decide, by decide⟩
  · exact ⟨rfl, by decide, by decide⟩
  · exact fine_tup F (by decide)
  · exact fine_tup (F.app (m := 43) ⟨by decide, by decide, by decide⟩) (by decide)
  · exact ⟨by decide, by decide, by decide⟩
  · exact fine_tup ((fine_drop F).app (m := 43) ⟨by decide, by decide, by decide⟩) (by decide)
  · exact fine_tup ((fine_drop F).app (m := 43) ⟨by decide, by decide, by decide⟩) (by decide)
  · exact ⟨by decide, by decide, by decide⟩
  · exact ⟨by decide, by decide, by decide⟩
  · exact ⟨by decide, by decide, by decide⟩
theorem heard_repr {v : D} (h : okD v = true ∧ bnd v ≤ 4000 ∧ dep v ≤ 3) : ∃ t, reprD (heardD v) = some (.str t) := by
  obtain ⟨h1, h2, h3⟩ := h
  refine repr_ok rfl ?_ ?_ ?_
  · show (okD (.str [112, 97, 114, 116, 115]) && (okD v && true)) = true
    rw [h1]
    rfl
  · show 52 + 2 + (bnd v + 2 + (5 + 2 + 0)) + 3 ≤ LINE
    unfold LINE
    omega
  · show max 0 (max (dep v) (max 0 0)) + 1 ≤ 64
    omega
theorem parse_ok {x : List Nat} (h : bad1 x) : okD (parseS x) = true ∧ bnd (parseS x) ≤ 100000 ∧ dep (parseS x) ≤ 2 := by
  have hxl := h.1
  unfold parseS
  split
  · refine ⟨?_, ?_, by show max 0 (max 0 0) + 1 ≤ 2; omega⟩
    · show (okD (.str [100, 101, 101, 100]) && (okD (.str x) && true)) = true
      rw [show okD (.str x) = true from h.2]
      rfl
    · show 42 + 2 + (10 * x.length + 2 + 2 + 0) + 3 ≤ 100000
      omega
  · have hlen := spl_len (c := 32) (x := x)
    have hch := spl_chars (c := 32) h.2
    revert hlen hch
    generalize spl [32] 0 [] x = ws
    intro hlen hch
    cases ws with
    | nil => exact ⟨rfl, by show 4 ≤ 100000; omega, Nat.zero_le _⟩
    | cons w0 r =>
      have hb : ∀ w ∈ w0 :: r, bad1 w := fun w hw => ⟨Nat.le_trans (hlen w hw) hxl, hch w hw⟩
      rw [words_cons]
      cases hf : formS w0 r.length with
      | none => exact ⟨rfl, by show 4 ≤ 100000; omega, Nat.zero_le _⟩
      | some f =>
        have hm : f ∈ formsS w0 := List.mem_of_find?_eq_some hf
        have h4 := (forms_chars w0 f hm).1
        have hz := zipP_len f r
        have ok := zipP_ok f r fun w hw => hb w (List.mem_cons_of_mem _ hw)
        have h5 := bnds_all fun y hy => (ok y hy).2.1
        have h6 : (5002 + 2) * (zipP f r).length ≤ 5004 * 4 := Nat.mul_le_mul_left _ (by omega)
        have hw0 := hb w0 (List.mem_cons_self ..)
        show okD (resS w0 (zipP f r)) = true ∧ bnd (resS w0 (zipP f r)) ≤ 100000 ∧ dep (resS w0 (zipP f r)) ≤ 2
        unfold resS
        split
        · exact ⟨rfl, by show 4 ≤ 100000; omega, Nat.zero_le _⟩
        · refine ⟨?_, ?_, ?_⟩
          · show (okD (.str w0) && okDs (zipP f r)) = true
            rw [show okD (.str w0) = true from hw0.2, okDs_all fun y hy => (ok y hy).1]
            rfl
          · show 10 * w0.length + 2 + 2 + bnds (zipP f r) + 3 ≤ 100000
            have := hw0.1
            omega
          · show max 0 (deps (zipP f r)) + 1 ≤ 2
            have := deps_all fun y hy => (ok y hy).2.2
            omega
theorem parse_repr2 {x : List Nat} (h : bad1 x) : ∃ t, reprD (.lst [parseS x, parseS x]) = some (.str t) := by
  obtain ⟨h1, h2, h3⟩ := parse_ok h
  refine repr_ok rfl ?_ ?_ ?_
  · show (okD (parseS x) && (okD (parseS x) && true)) = true
    rw [h1]
    rfl
  · show bnd (parseS x) + 2 + (bnd (parseS x) + 2 + 0) + 3 ≤ LINE
    unfold LINE
    omega
  · show max (dep (parseS x)) (max (dep (parseS x)) 0) + 1 ≤ 64
    omega
theorem parse_kind {x : List Nat} : reprK (parseS x) = true := by
  unfold parseS
  split
  · rfl
  · cases spl [32] 0 [] x with
    | nil => rfl
    | cons w0 r =>
      rw [words_cons]
      cases formS w0 r.length with
      | none => rfl
      | some f =>
        show reprK (resS w0 (zipP f r)) = true
        unfold resS
        split <;> rfl
theorem parse_repr {x : List Nat} (h : bad1 x) : ∃ t, reprD (parseS x) = some (.str t) := by
  obtain ⟨h1, h2, h3⟩ := parse_ok h
  exact repr_ok parse_kind h1 (by unfold LINE; omega) (by omega)
end Ev.K95
set_option Elab.async false
set_option linter.all false
set_option autoImplicit false
set_option maxRecDepth 100000
set_option maxHeartbeats 4000000
/-! K95m: the plain law of k95: its loops, one turn, the law. -/
namespace Ev.K95
open PySem PySem.Spec PyProof.Rows L2 TL Ev Ev.Ru NumText
theorem text_facts {w0 : List Nat} {ps : List D} (h : PSet w0 ps) : ∃ t : List Nat, (∀ S, ∃ T, callD G 9 24 [.tup (.str w0 :: ps)] S = .ok (.str t) (S ++ T)) ∧ t.length ≤ 430 ∧ 1 ≤ t.length ∧ (∀ c ∈ t, c < 128) ∧
    (isNon (parseS t) = false → ∀ S, callD G 9 15 [.tup (.str w0 :: ps)] S = .ok (.str t) S) := by
  by_cases hd : w0 = wDeed
  · subst hd
    cases h with
    | oa w0 a b is h1 h2 h3 h4 h5 => exact absurd h1 (by decide)
    | nw w0 a h1 h2 => exact absurd h1 (by decide)
    | deed a h1 =>
      obtain ⟨f1, f2, f3⟩ := deedT_facts h1
      refine ⟨deedT a, fun S => ⟨[], ?_⟩, by omega, by unfold deedT; rw [List.length_append, List.length_append]; show 1 ≤ 5 + _ + _; omega, fun c hc => (f2 c hc).2, fun _ S => text_ok 3 (right_deed 3 f3 S) (text_by_deed 7 _ S)⟩
      rw [List.append_nil]
      exact law_text_deed 8 _ S
    | one w0 h1 => exact absurd h1 (by decide)
  · obtain ⟨h1, h2, h3, h4, h5, h6⟩ := pset_sp h hd
    have hs := sum_words h4 h1 h2
    have hj := join_len (c := 32) (w0 :: ps.map wordT)
    refine ⟨textT w0 ps, fun S => law_text_ok 8 hd h4 h1 h2 S, ?_, ?_, ?_, fun hn S => ?_⟩
    · show (joinL [32] (w0 :: ps.map wordT)).length ≤ 430
      have : ([32] : List Nat).length * (w0 :: ps.map wordT).length = (w0 :: ps.map wordT).length := Nat.one_mul _
      omega
    · exact List.length_pos_iff.mpr (join_ne h3 _)
    · refine join_chars (by decide) _ fun w hw c hc => ?_
      rcases List.mem_cons.mp hw with rfl | hw
      · have := h5 c hc
        omega
      · obtain ⟨y, hy, rfl⟩ := List.mem_map.mp hw
        exact ((word_facts (h1 y hy)).2.2 c hc).2
    · rw [parse_text h hd] at hn
      have hr := pset_right h hd hn
      refine text_ok 3 ?_ (text_by_ok 6 hd h3 h4 h1 h2 S h5)
      have := right_ok 3 hd (fun y hy => sp_pl (h1 y hy)) (by omega) S
      rw [hr] at this
      exact this
def OKT (r : R D) : Prop := ∃ S, r = .ok (.bl true) S
theorem OKT.of {a b : R D} (h : a = b) (hb : OKT b) : OKT a := h ▸ hb
theorem asc_bad {x : List Nat} (hl : x.length ≤ 500) (h : ∀ c ∈ x, c < 128) : bad1 x := ⟨hl, List.all_eq_true.mpr fun c hc => decide_eq_true (by have := h c hc; omega)⟩
theorem ne_same {P : Pg} {n : Nat} {a b : Ex} {env : EnvD} {S S1 S2 : Sto} {t : List Nat} (h1 : evE P n a env S = .ok (.str t) S1) (h2 : evE P n b env S1 = .ok (.str t) S2) : evT P (n + 2) (.cmp .NotEq a b) env S = .ok false S2 := by
  have hc : cmpD .NotEq ((D.str t).look S2) ((D.str t).look S2) = some (.bl false) := by
    show some (D.bl (!decide (t = t))) = _
    simp
  exact rt_bl (fun _ _ => rfl) (re_cmp h1 h2 hc)
def laB : List Sm := [.iff (.cmp .NotEq (.bif .repr [(.call 14 [(.var 9)] [])]) (.bif .repr [(.call 26 [(.var 9)] [])])) [.ret (.cst (.bl false))] []]
def lbB : List Sm := [.iff (.cmp .IsNot (.call 14 [(.var 11)] []) (.cst (.non))) [.ret (.cst (.bl false))] []]
def lcB : List Sm := [.iff (.cmp .NotEq (.bif .repr [(.lam 19 (.call 15 [(.var 11)] []))]) (.bif .repr [(.lst [(.cst (.str [112, 97, 114, 116, 115])), (.var 11), (.cst (.bl true))])])) [.ret (.cst (.bl false))] []]
abbrev PG : Pg := ⟨callD G 9, lamD G 9, G.sub, fun _ => .bad, none⟩
section
variable {x0 : D} {e1 e2 e3 e4 e5 e6 e7 e8 e10 e11 e12 e13 e14 e15 e16 : Option D} {k : EnvD → Sto → R D}
theorem loopA (hk : ∀ e9 S, Pots S → OKT (k [some x0, e1, e2, e3, e4, e5, e6, e7, e8, e9, e10, e11, e12, e13, e14, e15, e16] S)) : ∀ (os : List (List Nat)) (n i : Nat) (e9 : Option D) (S : Sto), (∀ o ∈ os, bad1 o) → Pots S →
    OKT (thenR (evF PG (n + 1000 + os.length) (.nm 9) laB (.fix (os.map .str)) i [some x0, e1, e2, e3, e4, e5, e6, e7, e8, e9, e10, e11, e12, e13, e14, e15, e16] S) k) := by
  intro os
  induction os with
  | nil => intro n i e9 S _ hp; exact (hk e9 S hp).of (w_fnil rfl)
  | cons o os ih =>
    intro n i e9 S hb hp
    have ho := hb o (List.mem_cons_self ..)
    obtain ⟨T, hT⟩ := law_read_str 7 o S ho
    obtain ⟨t, ht⟩ := parse_repr ho
    have hlk : ∀ S : Sto, (parseS o).look S = parseS o := fun S => look_ok (parse_ok ho).1
    obtain ⟨S2, ih⟩ := ih n (i + 1) (some (.str o)) (S ++ T) (fun o h => hb o (List.mem_cons_of_mem _ h)) hp.app
    have hm : 1000 ≤ n + 1000 + os.length := by omega
    show OKT (thenR (evF PG (n + 1000 + os.length + 1) (.nm 9) laB (.fix (.str o :: os.map .str)) i _ _) k)
    revert ih hm
    generalize n + 1000 + os.length = m
    intro ih hm
    obtain ⟨m, rfl⟩ : ∃ m', m = m' + 1000 := ⟨m - 1000, by omega⟩
    refine ⟨S2, w_fcons rfl ?_⟩
    unfold laB
    exact w_iffF (S1 := S ++ T) (ne_same (S1 := S) (t := t) (re_bif (ds := [parseS o]) (res_cons (re_call (res_cons rfl res_nil) rfl (read_command_str 1 o S ho)) res_nil) (by
        show bifD .repr [(parseS o).look S] = _
        rw [hlk]
        exact ht)) (re_bif (ds := [parseS o]) (res_cons (re_call (res_cons rfl res_nil) rfl hT) res_nil) (by
        show bifD .repr [(parseS o).look _] = _
        rw [hlk]
        exact ht))) (w_nil ih)
variable {e9 : Option D}
theorem loopB (hk : ∀ e11 S, Pots S → OKT (k [some x0, e1, e2, e3, e4, e5, e6, e7, e8, e9, e10, e11, e12, e13, e14, e15, e16] S)) : ∀ (vs : List D) (n i : Nat) (e11 : Option D) (S : Sto), (∀ v ∈ vs, ∀ S, callD G 9 14 [v] S = .ok .non S) → Pots S →
    OKT (thenR (evF PG (n + 1000 + vs.length) (.nm 11) lbB (.fix vs) i [some x0, e1, e2, e3, e4, e5, e6, e7, e8, e9, e10, e11, e12, e13, e14, e15, e16] S) k) := by
  intro vs
  induction vs with
  | nil => intro n i e11 S _ hp; exact (hk e11 S hp).of (w_fnil rfl)
  | cons v vs ih =>
    intro n i e11 S hb hp
    have ho := hb v (List.mem_cons_self ..)
    obtain ⟨S2, ih⟩ := ih n (i + 1) (some v) S (fun o h => hb o (List.mem_cons_of_mem _ h)) hp
    have hm : 1000 ≤ n + 1000 + vs.length := by omega
    show OKT (thenR (evF PG (n + 1000 + vs.length + 1) (.nm 11) lbB (.fix (v :: vs)) i _ _) k)
    revert ih hm
    generalize n + 1000 + vs.length = m
    intro ih hm
    obtain ⟨m, rfl⟩ : ∃ m', m = m' + 1000 := ⟨m - 1000, by omega⟩
    refine ⟨S2, w_fcons rfl ?_⟩
    unfold lbB
    exact w_iffF (S1 := S) (rt_bl (fun _ _ => rfl) (re_cmp (x := .non) (re_call (res_cons rfl res_nil) rfl (ho S)) rfl rfl)) (w_nil ih)
theorem loopC (hk : ∀ e11 S, Pots S → OKT (k [some x0, e1, e2, e3, e4, e5, e6, e7, e8, e9, e10, e11, e12, e13, e14, e15, e16] S)) : ∀ (vs : List D) (n i : Nat) (e11 : Option D) (S : Sto), (∀ v ∈ vs, (∀ S, callD G 9 15 [v] S = .exc 1 [v] S) ∧ okD v = true ∧ bnd v ≤ 4000 ∧ dep v ≤ 3) → Pots S →
    OKT (thenR (evF PG (n + 1000 + vs.length) (.nm 11) lcB (.fix vs) i [some x0, e1, e2, e3, e4, e5, e6, e7, e8, e9, e10, e11, e12, e13, e14, e15, e16] S) k) := by
  intro vs
  induction vs with
  | nil => intro n i e11 S _ hp; exact (hk e11 S hp).of (w_fnil rfl)
  | cons v vs ih =>
    intro n i e11 S hb hp
    obtain ⟨ho, hf⟩ := hb v (List.mem_cons_self ..)
    obtain ⟨t, ht⟩ := heard_repr hf
    obtain ⟨S2, ih⟩ := ih n (i + 1) (some v) S (fun o h => hb o (List.mem_cons_of_mem _ h)) hp
    have hm : 1000 ≤ n + 1000 + vs.length := by omega
    show OKT (thenR (evF PG (n + 1000 + vs.length + 1) (.nm 11) lcB (.fix (v :: vs)) i _ _) k)
    revert ih hm
    generalize n + 1000 + vs.length = m
    intro ih hm
    obtain ⟨m, rfl⟩ : ∃ m', m = m' + 1000 := ⟨m - 1000, by omega⟩
    refine ⟨S2, w_fcons rfl ?_⟩
    unfold lcB
    refine w_iffF (S1 := S) (ne_same (S1 := S) (t := t) (re_bif (ds := [heardD v]) (res_cons (re_lam (heard_ok 8 (re_call (res_cons rfl res_nil) rfl (ho S)))) res_nil) ht) (re_bif (ds := [heardD v]) (res_cons (re_lst (res_cons rfl (res_cons rfl (res_cons rfl res_nil)))) res_nil) ht)) (w_nil ih)
end
end Ev.K95
set_option Elab.async false
set_option linter.all false
set_option autoImplicit false
set_option maxRecDepth 100000
set_option maxHeartbeats 4000000
/-! K95n: the plain law of k95: one turn, the law. -/
namespace Ev.K95
open PySem PySem.Spec PyProof.Rows L2 TL Ev Ev.Ru NumText
theorem cut_mem {x : List Nat} {a b : Option Int} : ∀ c ∈ cutD x a b, c ∈ x := fun c hc => List.mem_of_mem_drop (List.mem_of_mem_take hc)
theorem cut_lo {x : List Nat} {g : Int} (h : 0 ≤ g) : (cutD x none (some g)).length ≤ g.toNat := by
  unfold cutD HT.sIx
  show ((x.drop 0).take ((if g < 0 then _ else min g.toNat x.length) - 0)).length ≤ _
  rw [if_neg (by omega), List.drop_zero, Nat.sub_zero, List.length_take]
  omega
theorem cut_hi {x : List Nat} {g : Int} (h : 0 ≤ g) (h2 : g.toNat ≤ x.length) : (cutD x (some g) none).length ≤ x.length - g.toNat := by
  unfold cutD HT.sIx
  show ((x.drop (if g < 0 then _ else min g.toNat x.length)).take (x.length - (if g < 0 then _ else min g.toNat x.length))).length ≤ _
  rw [if_neg (by omega), List.length_take, List.length_drop]
  omega
def othersL (t sg : List Nat) (g : Int) : List (List Nat) := [cutD t none (some g) ++ sg ++ cutD t (some (g + 1)) none, cutD t none (some g) ++ cutD t (some (g + 1)) none, cutD t none (some g) ++ sg ++ cutD t (some g) none, t ++ [32], [32] ++ t, []]
theorem others_bad {t : List Nat} {s : Nat} {g : Int} (hl : t.length ≤ 430) (hc : ∀ c ∈ t, c < 128) (hs : s < 128) (h0 : 0 ≤ g) (h1 : g < t.length) : ∀ o ∈ othersL t [s] g, bad1 o := by
  have a := cut_lo (x := t) h0
  have b := cut_hi (x := t) (g := g + 1) (by omega) (by omega)
  have c := cut_hi (x := t) (g := g) h0 (by omega)
  have m : ∀ {p q : Option Int}, ∀ c ∈ cutD t p q, c < 128 := fun c hcc => hc c (cut_mem c hcc)
  intro o ho
  unfold othersL at ho
  simp only [List.mem_cons, List.not_mem_nil, or_false] at ho
  rcases ho with rfl | rfl | rfl | rfl | rfl | rfl
  · refine asc_bad (by rw [List.length_append, List.length_append, List.length_singleton]; omega) fun c hcc => ?_
    rcases List.mem_append.mp hcc with hcc | hcc
    · rcases List.mem_append.mp hcc with hcc | hcc
      · exact m c hcc
      · rw [List.mem_singleton.mp hcc]
        exact hs
    · exact m c hcc
  · refine asc_bad (by rw [List.length_append]; omega) fun c hcc => ?_
    rcases List.mem_append.mp hcc with hcc | hcc
    · exact m c hcc
    · exact m c hcc
  · refine asc_bad (by rw [List.length_append, List.length_append, List.length_singleton]; omega) fun c hcc => ?_
    rcases List.mem_append.mp hcc with hcc | hcc
    · rcases List.mem_append.mp hcc with hcc | hcc
      · exact m c hcc
      · rw [List.mem_singleton.mp hcc]
        exact hs
    · exact m c hcc
  · refine asc_bad (by rw [List.length_append, List.length_singleton]; omega) fun c hcc => ?_
    rcases List.mem_append.mp hcc with hcc | hcc
    · exact hc c hcc
    · rw [List.mem_singleton.mp hcc]
      decide
  · refine asc_bad (by rw [List.length_append, List.length_singleton]; omega) fun c hcc => ?_
    rcases List.mem_append.mp hcc with hcc | hcc
    · rw [List.mem_singleton.mp hcc]
      decide
    · exact hc c hcc
  · exact asc_bad (by decide) (fun c hcc => by cases hcc)
section
variable {x0 : D} {e1 e2 e3 e4 e5 e6 e7 e8 e9 e10 e11 e12 e13 e14 e15 e16 : Option D} {k : EnvD → Sto → R D}
theorem loopA' (hk : ∀ e9 S, Pots S → OKT (k [some x0, e1, e2, e3, e4, e5, e6, e7, e8, e9, e10, e11, e12, e13, e14, e15, e16] S)) (os : List (List Nat)) (N : Nat) (S : Sto) (hN : 1000 + os.length ≤ N) (hb : ∀ o ∈ os, bad1 o) (hp : Pots S) :
    OKT (thenR (evF PG N (.nm 9) laB (.fix (os.map .str)) 0 [some x0, e1, e2, e3, e4, e5, e6, e7, e8, e9, e10, e11, e12, e13, e14, e15, e16] S) k) := by
  obtain ⟨n, rfl⟩ : ∃ n, N = n + 1000 + os.length := ⟨N - 1000 - os.length, by omega⟩
  exact loopA hk os n 0 e9 S hb hp
theorem loopB' (hk : ∀ e11 S, Pots S → OKT (k [some x0, e1, e2, e3, e4, e5, e6, e7, e8, e9, e10, e11, e12, e13, e14, e15, e16] S)) (vs : List D) (N : Nat) (S : Sto) (hN : 1000 + vs.length ≤ N) (hb : ∀ v ∈ vs, ∀ S, callD G 9 14 [v] S = .ok .non S) (hp : Pots S) :
    OKT (thenR (evF PG N (.nm 11) lbB (.fix vs) 0 [some x0, e1, e2, e3, e4, e5, e6, e7, e8, e9, e10, e11, e12, e13, e14, e15, e16] S) k) := by
  obtain ⟨n, rfl⟩ : ∃ n, N = n + 1000 + vs.length := ⟨N - 1000 - vs.length, by omega⟩
  exact loopB hk vs n 0 e11 S hb hp
theorem loopC' (hk : ∀ e11 S, Pots S → OKT (k [some x0, e1, e2, e3, e4, e5, e6, e7, e8, e9, e10, e11, e12, e13, e14, e15, e16] S)) (vs : List D) (N : Nat) (S : Sto) (hN : 1000 + vs.length ≤ N) (hb : ∀ v ∈ vs, (∀ S, callD G 9 15 [v] S = .exc 1 [v] S) ∧ okD v = true ∧ bnd v ≤ 4000 ∧ dep v ≤ 3) (hp : Pots S) :
    OKT (thenR (evF PG N (.nm 11) lcB (.fix vs) 0 [some x0, e1, e2, e3, e4, e5, e6, e7, e8, e9, e10, e11, e12, e13, e14, e15, e16] S) k) := by
  obtain ⟨n, rfl⟩ : ∃ n, N = n + 1000 + vs.length := ⟨N - 1000 - vs.length, by omega⟩
  exact loopC hk vs n 0 e11 S hb hp
end
def SGN : List Nat := [32, 44, 46, 45, 48, 49, 97, 120, 79]
def lawB : List Sm := [.asg (.nm 4) (.call 23 [(.var 1)] []), .asg (.nm 5) (.call 24 [(.var 4)] []), .asg (.nm 6) (.call 26 [(.var 5)] []), .iff (.or_ (.cmp .NotEq (.bif .repr [(.lst [(.call 14 [(.var 5)] []), (.call 14 [(.var 5)] [0])])]) (.bif .repr [(.lst [(.var 6), (.var 6)])])) (.and_ (.cmp .IsNot (.var 6) (.cst (.non))) (.cmp .NotEq (.bif .repr [(.lst [(.call 15 [(.var 4)] []), (.call 15 [(.var 4)] [0])])]) (.bif .repr [(.lst [(.var 5), (.var 5)])])))) [.ret (.cst (.bl false))] [], .par 7 8 (.call 17 [(.var 2), (.bif .len [(.var 5)])] []) (.call 18 [(.var 2), (.bif .list [(.cst (.str [32, 44, 46, 45, 48, 49, 97, 120, 79]))])] []), .for_ (.nm 9) (.lst [(.bop .Add (.bop .Add (.slc (.var 5) (.cst (.non)) (.var 7)) (.var 8)) (.slc (.var 5) (.bop .Add (.var 7) (.cst (.int (1)))) (.cst (.non)))), (.bop .Add (.slc (.var 5) (.cst (.non)) (.var 7)) (.slc (.var 5) (.bop .Add (.var 7) (.cst (.int (1)))) (.cst (.non)))), (.bop .Add (.bop .Add (.slc (.var 5) (.cst (.non)) (.var 7)) (.var 8)) (.slc (.var 5) (.var 7) (.cst (.non)))), (.bop .Add (.var 5) (.cst (.str [32]))), (.bop .Add (.cst (.str [32])) (.var 5)), (.cst (.str []))]) [.iff (.cmp .NotEq (.bif .repr [(.call 14 [(.var 9)] [])]) (.bif .repr [(.call 26 [(.var 9)] [])])) [.ret (.cst (.bl false))] []], .for_ (.nm 11) (.lst [(.cst (.non)), (.cst (.int (0))), (.tup []), (.lst [(.var 5)]), (.met .split (.var 5) [(.cst (.str [32]))])]) [.iff (.cmp .IsNot (.call 14 [(.var 11)] []) (.cst (.non))) [.ret (.cst (.bl false))] []], .asg (.nm 10) (.lst [(.cst (.non)), (.cst (.int (0))), (.tup []), (.bif .list [(.var 4)]), (.bop .Add (.var 4) (.tup [(.cst (.int (0)))])), (.tup [(.cst (.str [117, 110, 100, 111]))]), (.bop .Add (.slc (.var 4) (.cst (.non)) (.neg (.cst (.int (1))))) (.tup [(.cst (.non))])), (.bop .Add (.slc (.var 4) (.cst (.non)) (.neg (.cst (.int (1))))) (.tup [(.cst (.bl true))])), (.tup [(.cst (.str [98, 101, 97, 116])), (.cst (.str [120])), (.neg (.cst (.int (1))))]), (.tup [(.cst (.str [111, 112, 101, 110])), (.cst (.str [120])), (.cst (.str [108, 101, 116])), (.tup [])]), (.tup [(.cst (.str [99, 114, 97, 115, 104])), (.cst (.int (1)))])]), .for_ (.nm 11) (.var 10) [.iff (.cmp .NotEq (.bif .repr [(.lam 19 (.call 15 [(.var 11)] []))]) (.bif .repr [(.lst [(.cst (.str [112, 97, 114, 116, 115])), (.var 11), (.cst (.bl true))])])) [.ret (.cst (.bl false))] []]]
theorem str_repr2 {t : List Nat} (hl : t.length ≤ 430) (hc : ∀ c ∈ t, c < 128) : ∃ u, reprD (.lst [.str t, .str t]) = some (.str u) := by
  have ho : okD (.str t) = true := (asc_bad (by omega) hc).2
  refine repr_ok rfl ?_ ?_ ?_
  · show (okD (.str t) && (okD (.str t) && true)) = true
    rw [ho]
    rfl
  · show 10 * t.length + 2 + 2 + (10 * t.length + 2 + 2 + 0) + 3 ≤ LINE
    unfold LINE
    omega
  · show max 0 (max 0 0) + 1 ≤ 64
    omega
theorem turn {x0 : D} {k : EnvD → Sto → R D} (hk : ∀ e3 e4 e5 e6 e7 e8 e9 e10 e11 S, Pots S → OKT (k [some x0, some (.ref 0), some (.ref 1), e3, e4, e5, e6, e7, e8, e9, e10, e11, none, none, none, none, none] S)) (n : Nat) (S : Sto) (hp : Pots S) (e3 e4 e5 e6 e7 e8 e9 e10 e11 : Option D) :
    OKT (thenR (evSs PG (n + 30000) lawB [some x0, some (.ref 0), some (.ref 1), e3, e4, e5, e6, e7, e8, e9, e10, e11, none, none, none, none, none] S) k) := by
  obtain ⟨w0, ps, S1, hps, hp1, h1⟩ := parts_ok 5 S hp
  obtain ⟨t, ht, htl, ht1, htc, htr⟩ := text_facts hps
  obtain ⟨T2, h2⟩ := ht S1
  have hb : bad1 t := asc_bad (by omega) htc
  obtain ⟨T3, h3⟩ := law_read_str 7 t (S1 ++ T2) hb
  have hp3 : Pots (S1 ++ T2 ++ T3) := hp1.app.app
  generalize hS3 : S1 ++ T2 ++ T3 = S3 at h3 hp3
  obtain ⟨u, hu0⟩ := parse_repr2 hb
  have hu : bifD .repr [.lst [parseS t, parseS t]] = some (.str u) := hu0
  obtain ⟨u2, hu20⟩ := str_repr2 htl htc
  have hu2 : bifD .repr [.lst [.str t, .str t]] = some (.str u2) := hu20
  obtain ⟨g, S4, hg0, hg1, hp4, h4⟩ := draw_p 8 1 (.inr rfl) (t.length : Int) (by omega) (by omega) S3 hp3
  obtain ⟨y, S5, hy, hp5, h5⟩ := pick_p 7 1 (.inr rfl) (SGN.map fun c => .str [c]) (by decide) (by decide) S4 hp4
  obtain ⟨s, hs, rfl⟩ := List.mem_map.mp hy
  have hs128 : s < 128 := by
    have : ∀ s ∈ SGN, s < 128 := by decide
    exact this s hs
  have hcl := cut_lo (x := t) hg0
  have hch := cut_hi (x := t) hg0 (by omega)
  have hch1 := cut_hi (x := t) (g := g + 1) (by omega) (by omega)
  have hfine := pset_fine hps
  have hlk : ∀ S : Sto, (parseS t).look S = parseS t := fun S => look_ok (parse_ok hb).1
  unfold lawB
  -- parts, text, due
  refine OKT.of (w_asg (S1 := S1) (re_call (res_cons rfl res_nil) rfl h1) rfl rfl) ?_
  refine OKT.of (w_asg (S1 := S1 ++ T2) (re_call (res_cons rfl res_nil) rfl h2) rfl rfl) ?_
  refine OKT.of (w_asg (S1 := S3) (re_call (res_cons rfl res_nil) rfl h3) rfl rfl) ?_
  -- what is read, what is written
  have hif : ∀ {n : Nat} {e3 e7 e8 e9 e10 e11 : Option D}, evT PG (n + 20) (.or_ (.cmp .NotEq (.bif .repr [(.lst [(.call 14 [(.var 5)] []), (.call 14 [(.var 5)] [0])])]) (.bif .repr [(.lst [(.var 6), (.var 6)])])) (.and_ (.cmp .IsNot (.var 6) (.cst (.non))) (.cmp .NotEq (.bif .repr [(.lst [(.call 15 [(.var 4)] []), (.call 15 [(.var 4)] [0])])]) (.bif .repr [(.lst [(.var 5), (.var 5)])]))))
      [some x0, some (.ref 0), some (.ref 1), e3, some (.tup (.str w0 :: ps)), some (.str t), some (parseS t), e7, e8, e9, e10, e11, none, none, none, none, none] S3 = .ok false S3 := fun {n e3 e7 e8 e9 e10 e11} => by
    refine rt_orF (S1 := S3) (ne_same (S1 := S3) (t := u) (re_bif (ds := [.lst [parseS t, parseS t]]) (res_cons (re_lst (res_cons (re_call (res_cons rfl res_nil) rfl (read_command_str 1 t S3 hb)) (res_cons (re_call (res_cons rfl res_nil) rfl (read_command_str 1 t S3 hb)) res_nil))) res_nil) hu) (re_bif (ds := [.lst [parseS t, parseS t]]) (res_cons (re_lst (res_cons rfl (res_cons rfl res_nil))) res_nil) hu)) ?_
    cases hn : isNon (parseS t) with
    | true =>
      refine rt_andF (rt_bl (fun _ _ => rfl) (re_cmp (x := parseS t) (S1 := S3) rfl rfl ?_))
      rw [hlk]
      show some (D.bl (!isNon (parseS t))) = _
      rw [hn]
      rfl
    | false =>
      have h15 := htr hn S3
      refine rt_andT (S1 := S3) (rt_bl (fun _ _ => rfl) (re_cmp (x := parseS t) (S1 := S3) rfl rfl ?_)) (ne_same (S1 := S3) (t := u2) (re_bif (ds := [.lst [.str t, .str t]]) (res_cons (re_lst (res_cons (re_call (res_cons rfl res_nil) rfl h15) (res_cons (re_call (res_cons rfl res_nil) rfl h15) res_nil))) res_nil) hu2) (re_bif (ds := [.lst [.str t, .str t]]) (res_cons (re_lst (res_cons rfl (res_cons rfl res_nil))) res_nil) hu2))
      rw [hlk]
      show some (D.bl (!isNon (parseS t))) = _
      rw [hn]
      rfl
  refine OKT.of (w_iffF (S1 := S3) hif (w_nil rfl)) ?_
  refine OKT.of (w_par (S1 := S4) (S2 := S5) (x := .int g) (y := .str [s]) (re_call (res_cons rfl (res_cons rfl res_nil)) rfl h4) (re_call (res_cons rfl (res_cons (re_bif rfl rfl) res_nil)) rfl h5) ⟨Nat.le_of_ble_eq_true rfl, Nat.le_of_ble_eq_true rfl⟩ rfl) ?_
  refine OKT.of (w_for (S1 := S5) (src := .fix ((othersL t [s] g).map .str)) (ri_e (fun _ _ => rfl) (re_lst (res_cons (re_bop (re_bop (re_slc rfl rfl rfl rfl rfl rfl) rfl (cat_str (by omega) (Nat.le_of_ble_eq_true rfl))) (re_slc rfl rfl rfl rfl rfl rfl) (cat_str (by rw [List.length_append]; show _ + 1 ≤ 1000; omega) (by omega)))
    (res_cons (re_bop (re_slc rfl rfl rfl rfl rfl rfl) (re_slc rfl rfl rfl rfl rfl rfl) (cat_str (by omega) (by omega)))
    (res_cons (re_bop (re_bop (re_slc rfl rfl rfl rfl rfl rfl) rfl (cat_str (by omega) (Nat.le_of_ble_eq_true rfl))) (re_slc rfl rfl rfl rfl rfl rfl) (cat_str (by rw [List.length_append]; show _ + 1 ≤ 1000; omega) (by omega)))
    (res_cons (re_bop rfl rfl (cat_str (by omega) (by decide))) (res_cons (re_bop rfl rfl (cat_str (by decide) (by omega))) (res_cons rfl res_nil))))))) rfl) rfl) ?_
  have hL : (othersL t [s] g).length = 6 := rfl
  refine (loopA' (k := fun env S => thenR (evSs PG (n + 29994) [.for_ (.nm 11) (.lst [(.cst (.non)), (.cst (.int (0))), (.tup []), (.lst [(.var 5)]), (.met .split (.var 5) [(.cst (.str [32]))])]) [.iff (.cmp .IsNot (.call 14 [(.var 11)] []) (.cst (.non))) [.ret (.cst (.bl false))] []], .asg (.nm 10) (.lst [(.cst (.non)), (.cst (.int (0))), (.tup []), (.bif .list [(.var 4)]), (.bop .Add (.var 4) (.tup [(.cst (.int (0)))])), (.tup [(.cst (.str [117, 110, 100, 111]))]), (.bop .Add (.slc (.var 4) (.cst (.non)) (.neg (.cst (.int (1))))) (.tup [(.cst (.non))])), (.bop .Add (.slc (.var 4) (.cst (.non)) (.neg (.cst (.int (1))))) (.tup [(.cst (.bl true))])), (.tup [(.cst (.str [98, 101, 97, 116])), (.cst (.str [120])), (.neg (.cst (.int (1))))]), (.tup [(.cst (.str [111, 112, 101, 110])), (.cst (.str [120])), (.cst (.str [108, 101, 116])), (.tup [])]), (.tup [(.cst (.str [99, 114, 97, 115, 104])), (.cst (.int (1)))])]), .for_ (.nm 11) (.var 10) [.iff (.cmp .NotEq (.bif .repr [(.lam 19 (.call 15 [(.var 11)] []))]) (.bif .repr [(.lst [(.cst (.str [112, 97, 114, 116, 115])), (.var 11), (.cst (.bl true))])])) [.ret (.cst (.bl false))] []]] env S) k) (fun e9' S6 hp6 => ?_) (othersL t [s] g) (n + 29993) S5 (by rw [hL]; omega) (others_bad htl htc hs128 hg0 hg1) hp5)
  refine OKT.of (w_for (S1 := S6) (src := .fix [.non, .int 0, .tup [], .lst [.str t], .lst ((spl [32] 0 [] t).map .str)]) (ri_e (fun _ _ => rfl) (re_lst (res_cons rfl (res_cons rfl (res_cons rfl (res_cons rfl (res_cons (re_met rfl rfl rfl (fun _ => by simp) (split_str (c := 32) (by decide) (by unfold LINE; omega))) res_nil)))))) rfl) rfl) ?_
  refine (loopB' (k := fun env S => thenR (evSs PG (n + 29993) [.asg (.nm 10) (.lst [(.cst (.non)), (.cst (.int (0))), (.tup []), (.bif .list [(.var 4)]), (.bop .Add (.var 4) (.tup [(.cst (.int (0)))])), (.tup [(.cst (.str [117, 110, 100, 111]))]), (.bop .Add (.slc (.var 4) (.cst (.non)) (.neg (.cst (.int (1))))) (.tup [(.cst (.non))])), (.bop .Add (.slc (.var 4) (.cst (.non)) (.neg (.cst (.int (1))))) (.tup [(.cst (.bl true))])), (.tup [(.cst (.str [98, 101, 97, 116])), (.cst (.str [120])), (.neg (.cst (.int (1))))]), (.tup [(.cst (.str [111, 112, 101, 110])), (.cst (.str [120])), (.cst (.str [108, 101, 116])), (.tup [])]), (.tup [(.cst (.str [99, 114, 97, 115, 104])), (.cst (.int (1)))])]), .for_ (.nm 11) (.var 10) [.iff (.cmp .NotEq (.bif .repr [(.lam 19 (.call 15 [(.var 11)] []))]) (.bif .repr [(.lst [(.cst (.str [112, 97, 114, 116, 115])), (.var 11), (.cst (.bl true))])])) [.ret (.cst (.bl false))] []]] env S) k) (fun e11' S7 hp7 => ?_) [.non, .int 0, .tup [], .lst [.str t], .lst ((spl [32] 0 [] t).map .str)] (n + 29992) S6 (by show 1000 + 5 ≤ _; omega) (fun v hv S => ?_) hp6)
  · have hbe : evE PG (n + 29991) (.lst [(.cst (.non)), (.cst (.int (0))), (.tup []), (.bif .list [(.var 4)]), (.bop .Add (.var 4) (.tup [(.cst (.int (0)))])), (.tup [(.cst (.str [117, 110, 100, 111]))]), (.bop .Add (.slc (.var 4) (.cst (.non)) (.neg (.cst (.int (1))))) (.tup [(.cst (.non))])), (.bop .Add (.slc (.var 4) (.cst (.non)) (.neg (.cst (.int (1))))) (.tup [(.cst (.bl true))])), (.tup [(.cst (.str [98, 101, 97, 116])), (.cst (.str [120])), (.neg (.cst (.int (1))))]), (.tup [(.cst (.str [111, 112, 101, 110])), (.cst (.str [120])), (.cst (.str [108, 101, 116])), (.tup [])]), (.tup [(.cst (.str [99, 114, 97, 115, 104])), (.cst (.int (1)))])]) [some x0, some (.ref 0), some (.ref 1), e3, some (.tup (.str w0 :: ps)), some (.str t), some (parseS t), some (.int g), some (.str [s]), e9', e10, e11', none, none, none, none, none] S7 = .ok (.lst (bents w0 ps)) S7 := by
      have hsl : slcP (.tup (.str w0 :: ps)) none (some (-1)) = some (.tup (.str w0 :: ps).dropLast) := congrArg (fun l => some (D.tup l)) (dropl _ _)
      have hlen : (D.str w0 :: ps).length ≤ 5 := by rw [List.length_cons]; have := hfine.2; omega
      have hdl : (D.str w0 :: ps).dropLast.length ≤ 5 := by rw [List.length_dropLast]; omega
      exact re_lst (res_cons rfl (res_cons rfl (res_cons rfl (res_cons rfl (res_cons (re_bop (x := .tup (.str w0 :: ps)) rfl rfl (cat_tup (by omega) (Nat.le_of_ble_eq_true rfl))) (res_cons rfl
        (res_cons (re_bop (x := .tup (.str w0 :: ps).dropLast) (re_slc (x := .tup (.str w0 :: ps)) (oh := some (-1)) rfl rfl rfl rfl rfl hsl) rfl (cat_tup (by omega) (Nat.le_of_ble_eq_true rfl)))
        (res_cons (re_bop (x := .tup (.str w0 :: ps).dropLast) (re_slc (x := .tup (.str w0 :: ps)) (oh := some (-1)) rfl rfl rfl rfl rfl hsl) rfl (cat_tup (by omega) (Nat.le_of_ble_eq_true rfl)))
        (res_cons rfl (res_cons rfl (res_cons rfl res_nil)))))))))))
    refine OKT.of (w_asg (S1 := S7) hbe rfl rfl) ?_
    refine OKT.of (w_for (S1 := S7) (src := .fix (bents w0 ps)) (ri_e (fun _ _ => rfl) rfl rfl) rfl) ?_
    exact (loopC' (k := fun env S => thenR (evSs PG (n + 29991) [] env S) k) (fun e11'' S8 hp8 => hk _ _ _ _ _ _ _ _ _ S8 hp8) (bents w0 ps) (n + 29990) S7 (by show 1000 + 11 ≤ _; omega) (fun v hv => ⟨fun S => text_no 3 (bents_no 3 hps S v hv), bents_fine hps v hv⟩) hp7)
  · simp only [List.mem_cons, List.not_mem_nil, or_false] at hv
    rcases hv with rfl | rfl | rfl | rfl | rfl
    all_goals rfl
theorem turns {x0 : D} {k : EnvD → Sto → R D} (hk : ∀ e3 e4 e5 e6 e7 e8 e9 e10 e11 S, Pots S → OKT (k [some x0, some (.ref 0), some (.ref 1), e3, e4, e5, e6, e7, e8, e9, e10, e11, none, none, none, none, none] S)) :
    ∀ (xs : List D) (n i : Nat) (S : Sto) (e3 e4 e5 e6 e7 e8 e9 e10 e11 : Option D), Pots S →
    OKT (thenR (evF PG (n + 30000 + xs.length) (.nm 3) lawB (.fix xs) i [some x0, some (.ref 0), some (.ref 1), e3, e4, e5, e6, e7, e8, e9, e10, e11, none, none, none, none, none] S) k) := by
  intro xs
  induction xs with
  | nil => intro n i S e3 e4 e5 e6 e7 e8 e9 e10 e11 hp; exact (hk e3 e4 e5 e6 e7 e8 e9 e10 e11 S hp).of (w_fnil rfl)
  | cons x xs ih =>
    intro n i S e3 e4 e5 e6 e7 e8 e9 e10 e11 hp
    have ih := fun S e3 e4 e5 e6 e7 e8 e9 e10 e11 hp => ih n (i + 1) S e3 e4 e5 e6 e7 e8 e9 e10 e11 hp
    have hm : 30000 ≤ n + 30000 + xs.length := by omega
    show OKT (thenR (evF PG (n + 30000 + xs.length + 1) (.nm 3) lawB (.fix (x :: xs)) i _ _) k)
    revert ih hm
    generalize n + 30000 + xs.length = m
    intro ih hm
    obtain ⟨m, rfl⟩ : ∃ m', m = m' + 30000 := ⟨m - 30000, by omega⟩
    obtain ⟨S2, h⟩ := turn (x0 := x0) (k := fun env S => thenR (evF PG (m + 30000) (.nm 3) lawB (.fix xs) (i + 1) env S) k) (fun e3 e4 e5 e6 e7 e8 e9 e10 e11 S hp => ih S e3 e4 e5 e6 e7 e8 e9 e10 e11 hp) m S hp (some x) e4 e5 e6 e7 e8 e9 e10 e11
    exact ⟨S2, w_fcons rfl h⟩
theorem plain (ns : List Int) (hn : ns.length ≤ 63) : ∃ S, callD G 10 27 [.frl (ns.map D.int)] [] = .ok (.bl true) S := by
  obtain ⟨a, b, h0⟩ := pot_ok 8 ns 0 (.inl rfl) hn []
  obtain ⟨a', b', h1⟩ := pot_ok 8 ns 1 (.inr rfl) hn [.lst [.int a, .int b]]
  have hp : Pots [.lst [.int a, .int b], .lst [.int a', .int b']] := ⟨⟨a, b, rfl⟩, ⟨a', b', rfl⟩⟩
  obtain ⟨S, h⟩ := turns (x0 := .frl (ns.map D.int)) (k := fun env S => thenR (evSs PG 899998 [.ret (.cst (.bl true))] env S) (fun _ S => .ok .non S)) (fun e3 e4 e5 e6 e7 e8 e9 e10 e11 S hp => ⟨S, w_ret rfl⟩) (rngD 0 8) 869989 0 _ none none none none none none none none none hp
  exact ⟨S, call_w (df := f27) rfl rfl (w_par (S1 := [.lst [.int a, .int b]]) (re_call (res_cons rfl (res_cons rfl res_nil)) rfl h0) (re_call (res_cons rfl (res_cons rfl res_nil)) rfl h1) ⟨Nat.le_of_ble_eq_true rfl, Nat.le_of_ble_eq_true rfl⟩ (w_for (S1 := [.lst [.int a, .int b], .lst [.int a', .int b']]) (ri_rng rfl rfl rfl) h))⟩
end Ev.K95
set_option Elab.async false
set_option linter.all false
set_option autoImplicit false
set_option maxRecDepth 100000
set_option maxHeartbeats 0
/-! K95b: the text is what K95a says. -/
namespace Ev.K95
open PySem PySem.Spec PyProof.Rows L2 TL Ev
def top (i : Nat) : Stmt := PySem.Challenge.pw_oneafter_k95_whole_commands_and_parts.main.body.getD i (.Pass ⟨0, 0, 0, 0⟩)
theorem tr0 : (defBody (top 5)).mapM (trS gi 40 (ctOf fi0 N0 (defScope (top 5)) false)) = some f0.body := by kernel_rfl
theorem sc0 : FnScope N0 fi0.ps (defScope (top 5)) := ⟨rfl, rfl, rfl, by decide +kernel, rfl, by decide +kernel, by decide +kernel⟩
theorem tr1 : (defBody (top 6)).mapM (trS gi 40 (ctOf fi1 N1 (defScope (top 6)) false)) = some f1.body := by kernel_rfl
theorem sc1 : FnScope N1 fi1.ps (defScope (top 6)) := ⟨rfl, rfl, rfl, by decide +kernel, rfl, by decide +kernel, by decide +kernel⟩
theorem tr2 : (defBody (top 7)).mapM (trS gi 40 (ctOf fi2 N2 (defScope (top 7)) false)) = some f2.body := by kernel_rfl
theorem sc2 : FnScope N2 fi2.ps (defScope (top 7)) := ⟨rfl, rfl, rfl, by decide +kernel, rfl, by decide +kernel, by decide +kernel⟩
theorem tr3 : (defBody (top 8)).mapM (trS gi 40 (ctOf fi3 N3 (defScope (top 8)) false)) = some f3.body := by kernel_rfl
theorem sc3 : FnScope N3 fi3.ps (defScope (top 8)) := ⟨rfl, rfl, rfl, by decide +kernel, rfl, by decide +kernel, by decide +kernel⟩
theorem tr4 : (defBody (top 9)).mapM (trS gi 40 (ctOf fi4 N4 (defScope (top 9)) false)) = some f4.body := by kernel_rfl
theorem sc4 : FnScope N4 fi4.ps (defScope (top 9)) := ⟨rfl, rfl, rfl, by decide +kernel, rfl, by decide +kernel, by decide +kernel⟩
theorem tr5 : (defBody (top 20)).mapM (trS gi 40 (ctOf fi5 N5 (defScope (top 20)) false)) = some f5.body := by kernel_rfl
theorem sc5 : FnScope N5 fi5.ps (defScope (top 20)) := ⟨rfl, rfl, rfl, by decide +kernel, rfl, by decide +kernel, by decide +kernel⟩
theorem tr6 : (defBody (top 21)).mapM (trS gi 40 (ctOf fi6 N6 (defScope (top 21)) false)) = some f6.body := by kernel_rfl
theorem sc6 : FnScope N6 fi6.ps (defScope (top 21)) := ⟨rfl, rfl, rfl, by decide +kernel, rfl, by decide +kernel, by decide +kernel⟩
theorem tr7 : (defBody (top 22)).mapM (trS gi 40 (ctOf fi7 N7 (defScope (top 22)) false)) = some f7.body := by kernel_rfl
theorem sc7 : FnScope N7 fi7.ps (defScope (top 22)) := ⟨rfl, rfl, rfl, by decide +kernel, rfl, by decide +kernel, by decide +kernel⟩
theorem tr8 : (defBody (top 23)).mapM (trS gi 40 (ctOf fi8 N8 (defScope (top 23)) false)) = some f8.body := by kernel_rfl
theorem sc8 : FnScope N8 fi8.ps (defScope (top 23)) := ⟨rfl, rfl, rfl, by decide +kernel, rfl, by decide +kernel, by decide +kernel⟩
theorem tr9 : (defBody (top 24)).mapM (trS gi 40 (ctOf fi9 N9 (defScope (top 24)) false)) = some f9.body := by kernel_rfl
theorem sc9 : FnScope N9 fi9.ps (defScope (top 24)) := ⟨rfl, rfl, rfl, by decide +kernel, rfl, by decide +kernel, by decide +kernel⟩
theorem tr10 : (defBody (top 25)).mapM (trS gi 40 (ctOf fi10 N10 (defScope (top 25)) false)) = some f10.body := by kernel_rfl
theorem sc10 : FnScope N10 fi10.ps (defScope (top 25)) := ⟨rfl, rfl, rfl, by decide +kernel, rfl, by decide +kernel, by decide +kernel⟩
theorem tr11 : (defBody (top 26)).mapM (trS gi 40 (ctOf fi11 N11 (defScope (top 26)) false)) = some f11.body := by kernel_rfl
theorem sc11 : FnScope N11 fi11.ps (defScope (top 26)) := ⟨rfl, rfl, rfl, by decide +kernel, rfl, by decide +kernel, by decide +kernel⟩
theorem tr12 : (defBody (top 27)).mapM (trS gi 40 (ctOf fi12 N12 (defScope (top 27)) false)) = some f12.body := by kernel_rfl
theorem sc12 : FnScope N12 fi12.ps (defScope (top 27)) := ⟨rfl, rfl, rfl, by decide +kernel, rfl, by decide +kernel, by decide +kernel⟩
theorem tr13 : (defBody (top 28)).mapM (trS gi 40 (ctOf fi13 N13 (defScope (top 28)) false)) = some f13.body := by kernel_rfl
theorem sc13 : FnScope N13 fi13.ps (defScope (top 28)) := ⟨rfl, rfl, rfl, by decide +kernel, rfl, by decide +kernel, by decide +kernel⟩
theorem tr14 : (defBody (top 29)).mapM (trS gi 40 (ctOf fi14 N14 (defScope (top 29)) false)) = some f14.body := by kernel_rfl
theorem sc14 : FnScope N14 fi14.ps (defScope (top 29)) := ⟨rfl, rfl, rfl, by decide +kernel, rfl, by decide +kernel, by decide +kernel⟩
theorem tr15 : (defBody (top 30)).mapM (trS gi 40 (ctOf fi15 N15 (defScope (top 30)) false)) = some f15.body := by kernel_rfl
theorem sc15 : FnScope N15 fi15.ps (defScope (top 30)) := ⟨rfl, rfl, rfl, by decide +kernel, rfl, by decide +kernel, by decide +kernel⟩
theorem tr16 : (defBody (top 32)).mapM (trS gi 40 (ctOf fi16 N16 (defScope (top 32)) false)) = some f16.body := by kernel_rfl
theorem sc16 : FnScope N16 fi16.ps (defScope (top 32)) := ⟨rfl, rfl, rfl, by decide +kernel, rfl, by decide +kernel, by decide +kernel⟩
theorem tr17 : (defBody (top 33)).mapM (trS gi 40 (ctOf fi17 N17 (defScope (top 33)) false)) = some f17.body := by kernel_rfl
theorem sc17 : FnScope N17 fi17.ps (defScope (top 33)) := ⟨rfl, rfl, rfl, by decide +kernel, rfl, by decide +kernel, by decide +kernel⟩
theorem tr18 : (defBody (top 34)).mapM (trS gi 40 (ctOf fi18 N18 (defScope (top 34)) false)) = some f18.body := by kernel_rfl
theorem sc18 : FnScope N18 fi18.ps (defScope (top 34)) := ⟨rfl, rfl, rfl, by decide +kernel, rfl, by decide +kernel, by decide +kernel⟩
theorem tr19 : (defBody (top 35)).mapM (trS gi 40 (ctOf fi19 N19 (defScope (top 35)) false)) = some f19.body := by kernel_rfl
theorem sc19 : FnScope N19 fi19.ps (defScope (top 35)) := ⟨rfl, rfl, rfl, by decide +kernel, rfl, by decide +kernel, by decide +kernel⟩
theorem tr20 : (defBody (top 36)).mapM (trS gi 40 (ctOf fi20 N20 (defScope (top 36)) false)) = some f20.body := by kernel_rfl
theorem sc20 : FnScope N20 fi20.ps (defScope (top 36)) := ⟨rfl, rfl, rfl, by decide +kernel, rfl, by decide +kernel, by decide +kernel⟩
theorem tr21 : (defBody (top 37)).mapM (trS gi 40 (ctOf fi21 N21 (defScope (top 37)) false)) = some f21.body := by kernel_rfl
theorem sc21 : FnScope N21 fi21.ps (defScope (top 37)) := ⟨rfl, rfl, rfl, by decide +kernel, rfl, by decide +kernel, by decide +kernel⟩
theorem tr22 : (defBody (top 38)).mapM (trS gi 40 (ctOf fi22 N22 (defScope (top 38)) false)) = some f22.body := by kernel_rfl
theorem sc22 : FnScope N22 fi22.ps (defScope (top 38)) := ⟨rfl, rfl, rfl, by decide +kernel, rfl, by decide +kernel, by decide +kernel⟩
theorem tr23 : (defBody (top 39)).mapM (trS gi 40 (ctOf fi23 N23 (defScope (top 39)) false)) = some f23.body := by kernel_rfl
theorem sc23 : FnScope N23 fi23.ps (defScope (top 39)) := ⟨rfl, rfl, rfl, by decide +kernel, rfl, by decide +kernel, by decide +kernel⟩
theorem tr24 : (defBody (top 40)).mapM (trS gi 40 (ctOf fi24 N24 (defScope (top 40)) false)) = some f24.body := by kernel_rfl
theorem sc24 : FnScope N24 fi24.ps (defScope (top 40)) := ⟨rfl, rfl, rfl, by decide +kernel, rfl, by decide +kernel, by decide +kernel⟩
theorem tr25 : (defBody (top 41)).mapM (trS gi 40 (ctOf fi25 N25 (defScope (top 41)) false)) = some f25.body := by kernel_rfl
theorem sc25 : FnScope N25 fi25.ps (defScope (top 41)) := ⟨rfl, rfl, rfl, by decide +kernel, rfl, by decide +kernel, by decide +kernel⟩
theorem tr26 : (defBody (top 42)).mapM (trS gi 40 (ctOf fi26 N26 (defScope (top 42)) false)) = some f26.body := by kernel_rfl
theorem sc26 : FnScope N26 fi26.ps (defScope (top 42)) := ⟨rfl, rfl, rfl, by decide +kernel, rfl, by decide +kernel, by decide +kernel⟩
theorem tr27 : (defBody (top 43)).mapM (trS gi 40 (ctOf fi27 N27 (defScope (top 43)) true)) = some f27.body := by kernel_rfl
theorem sc27 : FnScope N27 fi27.ps (defScope (top 43)) := ⟨rfl, rfl, rfl, by decide +kernel, rfl, by decide +kernel, by decide +kernel⟩
end Ev.K95
set_option Elab.async false
set_option linter.all false
set_option autoImplicit false
set_option maxRecDepth 100000
set_option maxHeartbeats 0
/-! K95c: the head of k95, its module. -/
namespace Ev.K95
open PySem PySem.Spec PyProof.Rows L2 TL Ev
def clsBody (i : Nat) : Stmt := match top i with
  | .ClassDef _ _ _ b _ _ _ _ _ _ _ => b.getD 0 (.Pass ⟨0, 0, 0, 0⟩)
  | _ => .Pass ⟨0, 0, 0, 0⟩
def sInit : Stmt := clsBody 11
def d0 : He.DefD := ⟨("is_integer", none), "is_integer", "is_integer", defArgs (top 5), defBody (top 5), defScope (top 5), [], []⟩
def d1 : He.DefD := ⟨("is_between", none), "is_between", "is_between", defArgs (top 6), defBody (top 6), defScope (top 6), [], []⟩
def d2 : He.DefD := ⟨("is_count", none), "is_count", "is_count", defArgs (top 7), defBody (top 7), defScope (top 7), [], []⟩
def d3 : He.DefD := ⟨("is_name", none), "is_name", "is_name", defArgs (top 8), defBody (top 8), defScope (top 8), [], []⟩
def d4 : He.DefD := ⟨("is_number", none), "is_number", "is_number", defArgs (top 9), defBody (top 9), defScope (top 9), [], []⟩
def d5 : He.DefD := ⟨("count_of", none), "count_of", "count_of", defArgs (top 20), defBody (top 20), defScope (top 20), [], []⟩
def d6 : He.DefD := ⟨("number_of", none), "number_of", "number_of", defArgs (top 21), defBody (top 21), defScope (top 21), [], []⟩
def d7 : He.DefD := ⟨("arguments_of", none), "arguments_of", "arguments_of", defArgs (top 22), defBody (top 22), defScope (top 22), [], []⟩
def d8 : He.DefD := ⟨("part_of", none), "part_of", "part_of", defArgs (top 23), defBody (top 23), defScope (top 23), [], []⟩
def d9 : He.DefD := ⟨("parts_by", none), "parts_by", "parts_by", defArgs (top 24), defBody (top 24), defScope (top 24), [], []⟩
def d10 : He.DefD := ⟨("word_part_is_right", none), "word_part_is_right", "word_part_is_right", defArgs (top 25), defBody (top 25), defScope (top 25), [], []⟩
def d11 : He.DefD := ⟨("parts_are_right", none), "parts_are_right", "parts_are_right", defArgs (top 26), defBody (top 26), defScope (top 26), [], []⟩
def d12 : He.DefD := ⟨("word_by", none), "word_by", "word_by", defArgs (top 27), defBody (top 27), defScope (top 27), [], []⟩
def d13 : He.DefD := ⟨("text_by", none), "text_by", "text_by", defArgs (top 28), defBody (top 28), defScope (top 28), [], []⟩
def d14 : He.DefD := ⟨("read_command", none), "read_command", "read_command", defArgs (top 29), defBody (top 29), defScope (top 29), [], []⟩
def d15 : He.DefD := ⟨("command_text", none), "command_text", "command_text", defArgs (top 30), defBody (top 30), defScope (top 30), [], []⟩
def d16 : He.DefD := ⟨("_law_pot", none), "_law_pot", "_law_pot", defArgs (top 32), defBody (top 32), defScope (top 32), [], []⟩
def d17 : He.DefD := ⟨("_law_draw", none), "_law_draw", "_law_draw", defArgs (top 33), defBody (top 33), defScope (top 33), [], []⟩
def d18 : He.DefD := ⟨("_law_pick", none), "_law_pick", "_law_pick", defArgs (top 34), defBody (top 34), defScope (top 34), [], []⟩
def d19 : He.DefD := ⟨("_law_heard", none), "_law_heard", "_law_heard", defArgs (top 35), defBody (top 35), defScope (top 35), [], []⟩
def d20 : He.DefD := ⟨("_law_name", none), "_law_name", "_law_name", defArgs (top 36), defBody (top 36), defScope (top 36), [], []⟩
def d21 : He.DefD := ⟨("_law_closed", none), "_law_closed", "_law_closed", defArgs (top 37), defBody (top 37), defScope (top 37), [], []⟩
def d22 : He.DefD := ⟨("_law_arguments", none), "_law_arguments", "_law_arguments", defArgs (top 38), defBody (top 38), defScope (top 38), [], []⟩
def d23 : He.DefD := ⟨("_law_parts", none), "_law_parts", "_law_parts", defArgs (top 39), defBody (top 39), defScope (top 39), [], []⟩
def d24 : He.DefD := ⟨("_law_text", none), "_law_text", "_law_text", defArgs (top 40), defBody (top 40), defScope (top 40), [], []⟩
def d25 : He.DefD := ⟨("_law_number", none), "_law_number", "_law_number", defArgs (top 41), defBody (top 41), defScope (top 41), [], []⟩
def d26 : He.DefD := ⟨("_law_read", none), "_law_read", "_law_read", defArgs (top 42), defBody (top 42), defScope (top 42), [], []⟩
def d27 : He.DefD := ⟨("law", none), "law", "law", defArgs (top 43), defBody (top 43), defScope (top 43), [], []⟩
def e0 : He.DefD := ⟨("StoreError", some "__init__"), "__init__", "StoreError.__init__", defArgs sInit, defBody sInit, defScope sInit, [], []⟩
def e1 : He.DefD := ⟨("InvalidCommand", some "__init__"), "__init__", "StoreError.__init__", defArgs sInit, defBody sInit, defScope sInit, [], []⟩
def fn : List He.DefD := [d0, d1, d2, d3, d4, d5, d6, d7, d8, d9, d10, d11, d12, d13, d14, d15, d16, d17, d18, d19, d20, d21, d22, d23, d24, d25, d26, d27, e0, e1]
def fa : List He.Fa := [.glo "is_integer", .glo "is_between", .glo "is_count", .glo "is_name", .glo "is_number", .glo "count_of", .glo "number_of", .glo "arguments_of", .glo "part_of", .glo "parts_by", .glo "word_part_is_right", .glo "parts_are_right", .glo "word_by", .glo "text_by", .glo "read_command", .glo "command_text", .glo "_law_pot", .glo "_law_draw", .glo "_law_pick", .glo "_law_heard", .glo "_law_name", .glo "_law_closed", .glo "_law_arguments", .glo "_law_parts", .glo "_law_text", .glo "_law_number", .glo "_law_read", .glo "law", .glo "StoreError", .glo "InvalidCommand"] ++ gi.free.map He.Fa.free
def forms : PySem.W.Frag → Addr := fun K => He.ga K "FORMS"
def ts : List He.Tab := [(forms, ["open", "beat", "commit", "leave", "sync", "image", "cut", "clean", "forget", "crash", "copy", "pull", "ask"])]
def tf : List He.Defn := [("law", none)]
def caK (K : PySem.W.Frag) (k : Nat) : Addr := if k = 1 then He.ga K "InvalidCommand" else He.ga K "StoreError"
def clB (K : PySem.W.Frag) (k : Nat) : Bool := oexB K (caK K k) && (xfB K (caK K k) && (eccB K (caK K k) && (decide (PySem.W.findIn K (.ref (caK K k)) "value" = some none) && (decide (PySem.W.typeIn K (.ref (He.ma K (caK K k) "__init__")) = some (.type "function")) &&
  (decide (PySem.W.findIn K (.ref (caK K k)) "__init__" = some (some (.ref (He.ma K (caK K k) "__init__")))))))))
def exB2 (K : PySem.W.Frag) (k c : Nat) : Bool := decide (PySem.W.exmOne K (.ref (caK K k)) (.ref (caK K c)) = some (G.sub k c)) && decide (PySem.W.kitOne K (.ref (caK K k)) (.ref (caK K c)) = some (G.sub k c))
def ex (K : PySem.W.Frag) : Bool := cstB K [(forms K, [])] cstL && (noInts K && (clB K 0 && (clB K 1 && (exB2 K 0 0 && (exB2 K 0 1 && (exB2 K 1 0 && exB2 K 1 1))))))
abbrev R : PySem.W.OpenRow := PySem.W.OpenLaw.row PySem.Challenge.rw_oneafter_k95_whole_commands_and_parts
abbrev hk : PySem.W.Hook := He.hookX 4 fa fn ts tf ex
def ob (s : PySem.W.SharedT) : He.AlX := He.obsX 4 fa fn ts tf ex (HandSHeadRun.getT s)
theorem ob_eq (s : PySem.W.SharedT) : ob s = hk.obs s.abs := He.obsX_eq (HandSHeadRun.getT_eq s)
def loose : List PySem.Str := (["__name__", "CLOSED", "LETTERS", "MOST_LETTERS", "GREATEST", "DIGITS", "MOST_DIGITS", "LIMIT", "MOST_ARGUMENTS", "FORMS", "DEED", "StoreError", "InvalidCommand", "is_integer", "is_between", "is_count", "is_name", "is_number", "count_of", "number_of", "arguments_of", "part_of", "parts_by", "word_part_is_right", "parts_are_right", "word_by", "text_by", "read_command", "command_text", "_law_pot", "_law_draw", "_law_pick", "_law_heard", "_law_name", "_law_closed", "_law_arguments", "_law_parts", "_law_text", "_law_number", "_law_read"] : List String).map Str.ofString
theorem run0 (w : World) : HandSHeadRun.RunEq R (PySem.W.view R.prog [43]) hk ob 4000 loose (w.withFollow "special-get-raises" false) := by
  intro os
  kernel_rfl
theorem run1 (w : World) : HandSHeadRun.RunEq R (PySem.W.view R.prog [43]) hk ob 4000 loose (w.withFollow "special-get-raises" true) := by
  intro os
  kernel_rfl
theorem run (w : World) : HandSHeadRun.RunEq R (PySem.W.view R.prog [43]) hk ob 4000 loose w := PySem.W.byRow2 "special-get-raises" run0 run1 w
end Ev.K95
set_option Elab.async false
set_option linter.all false
set_option autoImplicit false
set_option maxRecDepth 100000
set_option maxHeartbeats 0
/-! K95d: the module of k95. -/
namespace Ev.K95
open PySem PySem.Spec PyProof.Rows L2 TL Ev
def Gm (K : PySem.W.Frag) (w : World) : Gd := { K := K, w := w, T := [lamT K "law"], ca := caK K, cf := fun _ => ["value"] }
theorem scI : FnScope ["self", "value"] ["self", "value"] (defScope sInit) := ⟨rfl, rfl, rfl, by decide +kernel, rfl, by decide +kernel, by decide +kernel⟩
section
variable {P : Program} {w : World} {K : PySem.W.Frag} {mg : Str → Option Value} {base h : Heap}
theorem ok_init {f : Addr} {fd : FuncData} (F : FunD K "__init__" "StoreError.__init__" (defArgs sInit) (defBody sInit) (defScope sInit) [] [] f fd) : FnOk P w K mg base C8.CX0 1 f fd ["self", "value"] (InitSp K "value") := by
  refine F.ok scI (fun vs H Q E h => ?_) (fun cdv A outer s H vs Q E hr h => ⟨tOst K "value" (tVar 0) (tVar 1), pss_one (ps_ost (pv 0) (pv 1)), ?_⟩)
  · obtain ⟨a, y, C, rfl, _⟩ := h
    rfl
  · obtain ⟨a, y, C, rfl, hO, hno, ha, hq⟩ := h
    exact ⟨y, rfl, .ref a, rfl, a, C, rfl, hO, hno, .inl ⟨ha, fun dx n ne => hq dx n ne⟩⟩
theorem bp0 : BindP fi0 (defArgs (top 5)) (defBody (top 5)) (defScope (top 5)) := fun _ _ _ _ _ _ us hl => match us, hl with | [_], _ => rfl
theorem bp1 : BindP fi1 (defArgs (top 6)) (defBody (top 6)) (defScope (top 6)) := fun _ _ _ _ _ _ us hl => match us, hl with | [_, _, _], _ => rfl
theorem bp2 : BindP fi2 (defArgs (top 7)) (defBody (top 7)) (defScope (top 7)) := fun _ _ _ _ _ _ us hl => match us, hl with | [_], _ => rfl
theorem bp3 : BindP fi3 (defArgs (top 8)) (defBody (top 8)) (defScope (top 8)) := fun _ _ _ _ _ _ us hl => match us, hl with | [_], _ => rfl
theorem bp4 : BindP fi4 (defArgs (top 9)) (defBody (top 9)) (defScope (top 9)) := fun _ _ _ _ _ _ us hl => match us, hl with | [_], _ => rfl
theorem bp5 : BindP fi5 (defArgs (top 20)) (defBody (top 20)) (defScope (top 20)) := fun _ _ _ _ _ _ us hl => match us, hl with | [_], _ => rfl
theorem bp6 : BindP fi6 (defArgs (top 21)) (defBody (top 21)) (defScope (top 21)) := fun _ _ _ _ _ _ us hl => match us, hl with | [_], _ => rfl
theorem bp7 : BindP fi7 (defArgs (top 22)) (defBody (top 22)) (defScope (top 22)) := fun _ _ _ _ _ _ us hl => match us, hl with | [_], _ => rfl
theorem bp8 : BindP fi8 (defArgs (top 23)) (defBody (top 23)) (defScope (top 23)) := fun _ _ _ _ _ _ us hl => match us, hl with | [_, _], _ => rfl
theorem bp9 : BindP fi9 (defArgs (top 24)) (defBody (top 24)) (defScope (top 24)) := fun _ _ _ _ _ _ us hl => match us, hl with | [_], _ => rfl
theorem bp10 : BindP fi10 (defArgs (top 25)) (defBody (top 25)) (defScope (top 25)) := fun _ _ _ _ _ _ us hl => match us, hl with | [_, _], _ => rfl
theorem bp11 : BindP fi11 (defArgs (top 26)) (defBody (top 26)) (defScope (top 26)) := fun _ _ _ _ _ _ us hl => match us, hl with | [_], _ => rfl
theorem bp12 : BindP fi12 (defArgs (top 27)) (defBody (top 27)) (defScope (top 27)) := fun _ _ _ _ _ _ us hl => match us, hl with | [_], _ => rfl
theorem bp13 : BindP fi13 (defArgs (top 28)) (defBody (top 28)) (defScope (top 28)) := fun _ _ _ _ _ _ us hl => match us, hl with | [_], _ => rfl
theorem bp14 : BindP fi14 (defArgs (top 29)) (defBody (top 29)) (defScope (top 29)) := fun _ _ _ _ _ _ us hl => match us, hl with | [_], _ => rfl
theorem bp15 : BindP fi15 (defArgs (top 30)) (defBody (top 30)) (defScope (top 30)) := fun _ _ _ _ _ _ us hl => match us, hl with | [_], _ => rfl
theorem bp16 : BindP fi16 (defArgs (top 32)) (defBody (top 32)) (defScope (top 32)) := fun _ _ _ _ _ _ us hl => match us, hl with | [_, _], _ => rfl
theorem bp17 : BindP fi17 (defArgs (top 33)) (defBody (top 33)) (defScope (top 33)) := fun _ _ _ _ _ _ us hl => match us, hl with | [_, _], _ => rfl
theorem bp18 : BindP fi18 (defArgs (top 34)) (defBody (top 34)) (defScope (top 34)) := fun _ _ _ _ _ _ us hl => match us, hl with | [_, _], _ => rfl
theorem bp19 : BindP fi19 (defArgs (top 35)) (defBody (top 35)) (defScope (top 35)) := fun _ _ _ _ _ _ us hl => match us, hl with | [_], _ => rfl
theorem bp20 : BindP fi20 (defArgs (top 36)) (defBody (top 36)) (defScope (top 36)) := fun _ _ _ _ _ _ us hl => match us, hl with | [_], _ => rfl
theorem bp21 : BindP fi21 (defArgs (top 37)) (defBody (top 37)) (defScope (top 37)) := fun _ _ _ _ _ _ us hl => match us, hl with | [], _ => rfl
theorem bp22 : BindP fi22 (defArgs (top 38)) (defBody (top 38)) (defScope (top 38)) := fun _ _ _ _ _ _ us hl => match us, hl with | [_], _ => rfl
theorem bp23 : BindP fi23 (defArgs (top 39)) (defBody (top 39)) (defScope (top 39)) := fun _ _ _ _ _ _ us hl => match us, hl with | [_], _ => rfl
theorem bp24 : BindP fi24 (defArgs (top 40)) (defBody (top 40)) (defScope (top 40)) := fun _ _ _ _ _ _ us hl => match us, hl with | [_], _ => rfl
theorem bp25 : BindP fi25 (defArgs (top 41)) (defBody (top 41)) (defScope (top 41)) := fun _ _ _ _ _ _ us hl => match us, hl with | [_, _, _], _ => rfl
theorem bp26 : BindP fi26 (defArgs (top 42)) (defBody (top 42)) (defScope (top 42)) := fun _ _ _ _ _ _ us hl => match us, hl with | [_], _ => rfl
theorem bp27 : BindP fi27 (defArgs (top 43)) (defBody (top 43)) (defScope (top 43)) := fun _ _ _ _ _ _ us hl => match us, hl with | [_], _ => rfl
theorem bk14 : BindK fi14 (defArgs (top 29)) (defBody (top 29)) (defScope (top 29)) 0 ["value"] [0] := fun _ _ _ _ _ _ us ws vs h1 h2 h3 h4 => match us, ws, h1, h2, h3 with | [], [x], _, _, h3 => (by cases h3; rfl)
theorem bk15 : BindK fi15 (defArgs (top 30)) (defBody (top 30)) (defScope (top 30)) 0 ["parts"] [0] := fun _ _ _ _ _ _ us ws vs h1 h2 h3 h4 => match us, ws, h1, h2, h3 with | [], [x], _, _, h3 => (by cases h3; rfl)
theorem mem_i {α : Type} {l : List α} {x : α} (i : Nat) (h : l[i]? = some x) : x ∈ l := List.mem_of_getElem? h
theorem cl_ok (k : Nat) (c : clB K k = true) : (OexC K (caK K k) ∧ XfC K (caK K k) ∧ ExcC K (caK K k) ∧ PySem.W.findIn K (.ref (caK K k)) "value" = some none) ∧ PySem.W.typeIn K (.ref (He.ma K (caK K k) "__init__")) = some (.type "function") ∧ PySem.W.findIn K (.ref (caK K k)) "__init__" = some (some (.ref (He.ma K (caK K k) "__init__"))) := by
  obtain ⟨h1, c⟩ := andT c
  obtain ⟨h2, c⟩ := andT c
  obtain ⟨h3, c⟩ := andT c
  obtain ⟨h4, c⟩ := andT c
  obtain ⟨h5, h6⟩ := andT c
  exact ⟨⟨oexB_ok h1, xfB_ok h2, eccB_ok h3, of_decide_eq_true h4⟩, of_decide_eq_true h5, of_decide_eq_true h6⟩
theorem mdl (c : He.SaysX fa fn ts tf ex w h K) (KB : K.In base) (GB : base.Ns mainGlobals mg) (hcs : ∀ p ∈ [He.cT K ("law", none)], LamX.TabB base mg p.1 p.2) : Mdl gi P w K mg base (Gm K w) G := by
  have cd := c.t.d
  obtain ⟨x1, cm⟩ := andT c.more
  obtain ⟨x2, cm⟩ := andT cm
  obtain ⟨x3, cm⟩ := andT cm
  obtain ⟨x4, cm⟩ := andT cm
  obtain ⟨x5, cm⟩ := andT cm
  obtain ⟨x6, cm⟩ := andT cm
  obtain ⟨x7, x8⟩ := andT cm
  have glo : ∀ x : Str, He.Fa.glo x ∈ fa → mg x = some (.ref (He.ga K x)) := fun x hx => He.glo_ok KB GB (cd.facts hx)
  have e01 : ∀ k : Nat, caK K k = caK K (if k = 1 then 1 else 0) := fun k => by
    unfold caK
    by_cases hk : k = 1
    · rw [if_pos hk, if_pos hk]
      rfl
    · rw [if_neg hk, if_neg hk]
      rfl
  have allC : ∀ k, (OexC K (caK K k) ∧ XfC K (caK K k) ∧ ExcC K (caK K k) ∧ PySem.W.findIn K (.ref (caK K k)) "value" = some none) := fun k => by
    rw [e01 k]
    by_cases hk : k = 1
    · rw [if_pos hk]
      exact (cl_ok 1 x4).1
    · rw [if_neg hk]
      exact (cl_ok 0 x3).1
  have allE : ∀ k c, PySem.W.exmOne K (.ref (caK K k)) (.ref (caK K c)) = some (G.sub k c) ∧ PySem.W.kitOne K (.ref (caK K k)) (.ref (caK K c)) = some (G.sub k c) := fun k c => by
    have key : ∀ k c, exB2 K k c = true → PySem.W.exmOne K (.ref (caK K k)) (.ref (caK K c)) = some (G.sub k c) ∧ PySem.W.kitOne K (.ref (caK K k)) (.ref (caK K c)) = some (G.sub k c) := fun k c e => by
      obtain ⟨q1, q2⟩ := andT e
      exact ⟨of_decide_eq_true q1, of_decide_eq_true q2⟩
    have es : G.sub k c = G.sub (if k = 1 then 1 else 0) (if c = 1 then 1 else 0) := by
      show (!decide (c = 1) || decide (k = 1)) = (!decide ((if c = 1 then 1 else 0) = 1) || decide ((if k = 1 then 1 else 0) = 1))
      by_cases hk : k = 1 <;> by_cases hc : c = 1 <;> simp [hk, hc]
    rw [e01 k, e01 c, es]
    by_cases hk : k = 1 <;> by_cases hc : c = 1
    · rw [if_pos hk, if_pos hc]; exact key 1 1 x8
    · rw [if_pos hk, if_neg hc]; exact key 1 0 x7
    · rw [if_neg hk, if_pos hc]; exact key 0 1 x6
    · rw [if_neg hk, if_neg hc]; exact key 0 0 x5
  have two : ∀ cn k, idxOf cn gi.cls = some k → (cn = "StoreError" ∧ k = 0) ∨ (cn = "InvalidCommand" ∧ k = 1) := fun cn k e => by
    have q := idxOf_get e
    match k, q with
    | 0, q => exact .inl ⟨(Option.some.inj q).symm, rfl⟩
    | 1, q => exact .inr ⟨(Option.some.inj q).symm, rfl⟩
    | k + 2, q => cases q
  refine { eK := rfl, ew := rfl, cst := ?_, free := ?_, xok := ?_, cls := ?_, ini := ?_, defs := ?_ }
  · intro x dd e
    refine cstB_ok (Γ := Gm K w) (tb := [(forms K, [])]) (fun t ht => ?_) KB GB x1 e
    have : t = (forms K, []) := List.mem_singleton.mp ht
    rw [this]
    exact c.t.tab 0
  · intro x hx
    have hm : x ∈ gi.free := by simpa using hx
    exact He.free_ok KB GB (cd.facts (List.mem_append_right _ (List.mem_map.mpr ⟨x, hm, rfl⟩)))
  · intro X hX
    refine ⟨fun _ => rfl, fun k => ?_, fun k => ?_, fun k c => ?_, fun k c => ?_, fun k => ?_⟩
    · rw [hX]; exact (allC k).2.1
    · rw [hX]; exact (allC k).2.2.2
    · rw [hX]; exact (allE k c).1
    · rw [hX]; exact (allE k c).2
    · rw [hX]; exact (allC k).2.2.1
  · intro cn k e
    refine ⟨?_, (allC k).1⟩
    rcases two cn k e with ⟨rfl, rfl⟩ | ⟨rfl, rfl⟩
    · exact glo _ (mem_i 28 rfl)
    · exact glo _ (mem_i 29 rfl)
  · intro cn k e
    rcases two cn k e with ⟨rfl, rfl⟩ | ⟨rfl, rfl⟩
    · obtain ⟨fd, F⟩ := cd.def_ 28 (d := e0) rfl
      obtain ⟨_, h5, h6⟩ := cl_ok 0 x3
      exact ⟨_, fd, _, h6, h5, ok_init F, F.bindsN fun _ _ _ _ _ _ us hl => match us, hl with | [_, _], _ => rfl⟩
    · obtain ⟨fd, F⟩ := cd.def_ 29 (d := e1) rfl
      obtain ⟨_, h5, h6⟩ := cl_ok 1 x4
      exact ⟨_, fd, _, h6, h5, ok_init F, F.bindsN fun _ _ _ _ _ _ us hl => match us, hl with | [_, _], _ => rfl⟩
  · intro i fi e
    match i, e with
    | 0, e =>
      cases e
      obtain ⟨fd, F⟩ := cd.def_ 0 (d := d0) rfl
      exact ⟨_, fd, DefOk.of (cs := [He.cT K ("law", none)]) rfl F (glo _ (mem_i 0 rfl)) sc0 tr0 rfl hcs (fun z => nomatch z) bp0 (fun q hq => nomatch hq) (fun z => nomatch z)⟩
    | 1, e =>
      cases e
      obtain ⟨fd, F⟩ := cd.def_ 1 (d := d1) rfl
      exact ⟨_, fd, DefOk.of (cs := [He.cT K ("law", none)]) rfl F (glo _ (mem_i 1 rfl)) sc1 tr1 rfl hcs (fun z => nomatch z) bp1 (fun q hq => nomatch hq) (fun z => nomatch z)⟩
    | 2, e =>
      cases e
      obtain ⟨fd, F⟩ := cd.def_ 2 (d := d2) rfl
      exact ⟨_, fd, DefOk.of (cs := [He.cT K ("law", none)]) rfl F (glo _ (mem_i 2 rfl)) sc2 tr2 rfl hcs (fun z => nomatch z) bp2 (fun q hq => nomatch hq) (fun z => nomatch z)⟩
    | 3, e =>
      cases e
      obtain ⟨fd, F⟩ := cd.def_ 3 (d := d3) rfl
      exact ⟨_, fd, DefOk.of (cs := [He.cT K ("law", none)]) rfl F (glo _ (mem_i 3 rfl)) sc3 tr3 rfl hcs (fun z => nomatch z) bp3 (fun q hq => nomatch hq) (fun z => nomatch z)⟩
    | 4, e =>
      cases e
      obtain ⟨fd, F⟩ := cd.def_ 4 (d := d4) rfl
      exact ⟨_, fd, DefOk.of (cs := [He.cT K ("law", none)]) rfl F (glo _ (mem_i 4 rfl)) sc4 tr4 rfl hcs (fun z => nomatch z) bp4 (fun q hq => nomatch hq) (fun z => nomatch z)⟩
    | 5, e =>
      cases e
      obtain ⟨fd, F⟩ := cd.def_ 5 (d := d5) rfl
      exact ⟨_, fd, DefOk.of (cs := [He.cT K ("law", none)]) rfl F (glo _ (mem_i 5 rfl)) sc5 tr5 rfl hcs (fun z => nomatch z) bp5 (fun q hq => nomatch hq) (fun z => nomatch z)⟩
    | 6, e =>
      cases e
      obtain ⟨fd, F⟩ := cd.def_ 6 (d := d6) rfl
      exact ⟨_, fd, DefOk.of (cs := [He.cT K ("law", none)]) rfl F (glo _ (mem_i 6 rfl)) sc6 tr6 rfl hcs (fun z => nomatch z) bp6 (fun q hq => nomatch hq) (fun z => nomatch z)⟩
    | 7, e =>
      cases e
      obtain ⟨fd, F⟩ := cd.def_ 7 (d := d7) rfl
      exact ⟨_, fd, DefOk.of (cs := [He.cT K ("law", none)]) rfl F (glo _ (mem_i 7 rfl)) sc7 tr7 rfl hcs (fun z => nomatch z) bp7 (fun q hq => nomatch hq) (fun z => nomatch z)⟩
    | 8, e =>
      cases e
      obtain ⟨fd, F⟩ := cd.def_ 8 (d := d8) rfl
      exact ⟨_, fd, DefOk.of (cs := [He.cT K ("law", none)]) rfl F (glo _ (mem_i 8 rfl)) sc8 tr8 rfl hcs (fun z => nomatch z) bp8 (fun q hq => nomatch hq) (fun z => nomatch z)⟩
    | 9, e =>
      cases e
      obtain ⟨fd, F⟩ := cd.def_ 9 (d := d9) rfl
      exact ⟨_, fd, DefOk.of (cs := [He.cT K ("law", none)]) rfl F (glo _ (mem_i 9 rfl)) sc9 tr9 rfl hcs (fun z => nomatch z) bp9 (fun q hq => nomatch hq) (fun z => nomatch z)⟩
    | 10, e =>
      cases e
      obtain ⟨fd, F⟩ := cd.def_ 10 (d := d10) rfl
      exact ⟨_, fd, DefOk.of (cs := [He.cT K ("law", none)]) rfl F (glo _ (mem_i 10 rfl)) sc10 tr10 rfl hcs (fun z => nomatch z) bp10 (fun q hq => nomatch hq) (fun z => nomatch z)⟩
    | 11, e =>
      cases e
      obtain ⟨fd, F⟩ := cd.def_ 11 (d := d11) rfl
      exact ⟨_, fd, DefOk.of (cs := [He.cT K ("law", none)]) rfl F (glo _ (mem_i 11 rfl)) sc11 tr11 rfl hcs (fun z => nomatch z) bp11 (fun q hq => nomatch hq) (fun z => nomatch z)⟩
    | 12, e =>
      cases e
      obtain ⟨fd, F⟩ := cd.def_ 12 (d := d12) rfl
      exact ⟨_, fd, DefOk.of (cs := [He.cT K ("law", none)]) rfl F (glo _ (mem_i 12 rfl)) sc12 tr12 rfl hcs (fun z => nomatch z) bp12 (fun q hq => nomatch hq) (fun z => nomatch z)⟩
    | 13, e =>
      cases e
      obtain ⟨fd, F⟩ := cd.def_ 13 (d := d13) rfl
      exact ⟨_, fd, DefOk.of (cs := [He.cT K ("law", none)]) rfl F (glo _ (mem_i 13 rfl)) sc13 tr13 rfl hcs (fun z => nomatch z) bp13 (fun q hq => nomatch hq) (fun z => nomatch z)⟩
    | 14, e =>
      cases e
      obtain ⟨fd, F⟩ := cd.def_ 14 (d := d14) rfl
      exact ⟨_, fd, DefOk.of (cs := [He.cT K ("law", none)]) rfl F (glo _ (mem_i 14 rfl)) sc14 tr14 rfl hcs (fun z => nomatch z) bp14 (fun q hq => by
        rw [List.mem_singleton.mp hq]
        exact bk14) (fun z => nomatch z)⟩
    | 15, e =>
      cases e
      obtain ⟨fd, F⟩ := cd.def_ 15 (d := d15) rfl
      exact ⟨_, fd, DefOk.of (cs := [He.cT K ("law", none)]) rfl F (glo _ (mem_i 15 rfl)) sc15 tr15 rfl hcs (fun z => nomatch z) bp15 (fun q hq => by
        rw [List.mem_singleton.mp hq]
        exact bk15) (fun z => nomatch z)⟩
    | 16, e =>
      cases e
      obtain ⟨fd, F⟩ := cd.def_ 16 (d := d16) rfl
      exact ⟨_, fd, DefOk.of (cs := [He.cT K ("law", none)]) rfl F (glo _ (mem_i 16 rfl)) sc16 tr16 rfl hcs (fun z => nomatch z) bp16 (fun q hq => nomatch hq) (fun z => nomatch z)⟩
    | 17, e =>
      cases e
      obtain ⟨fd, F⟩ := cd.def_ 17 (d := d17) rfl
      exact ⟨_, fd, DefOk.of (cs := [He.cT K ("law", none)]) rfl F (glo _ (mem_i 17 rfl)) sc17 tr17 rfl hcs (fun z => nomatch z) bp17 (fun q hq => nomatch hq) (fun z => nomatch z)⟩
    | 18, e =>
      cases e
      obtain ⟨fd, F⟩ := cd.def_ 18 (d := d18) rfl
      exact ⟨_, fd, DefOk.of (cs := [He.cT K ("law", none)]) rfl F (glo _ (mem_i 18 rfl)) sc18 tr18 rfl hcs (fun z => nomatch z) bp18 (fun q hq => nomatch hq) (fun z => nomatch z)⟩
    | 19, e =>
      cases e
      obtain ⟨fd, F⟩ := cd.def_ 19 (d := d19) rfl
      exact ⟨_, fd, DefOk.of (cs := [He.cT K ("law", none)]) rfl F (glo _ (mem_i 19 rfl)) sc19 tr19 rfl hcs (fun z => nomatch z) bp19 (fun q hq => nomatch hq) (fun _ => ⟨rfl, _, rfl, by decide +kernel⟩)⟩
    | 20, e =>
      cases e
      obtain ⟨fd, F⟩ := cd.def_ 20 (d := d20) rfl
      exact ⟨_, fd, DefOk.of (cs := [He.cT K ("law", none)]) rfl F (glo _ (mem_i 20 rfl)) sc20 tr20 rfl hcs (fun z => nomatch z) bp20 (fun q hq => nomatch hq) (fun z => nomatch z)⟩
    | 21, e =>
      cases e
      obtain ⟨fd, F⟩ := cd.def_ 21 (d := d21) rfl
      exact ⟨_, fd, DefOk.of (cs := [He.cT K ("law", none)]) rfl F (glo _ (mem_i 21 rfl)) sc21 tr21 rfl hcs (fun z => nomatch z) bp21 (fun q hq => nomatch hq) (fun z => nomatch z)⟩
    | 22, e =>
      cases e
      obtain ⟨fd, F⟩ := cd.def_ 22 (d := d22) rfl
      exact ⟨_, fd, DefOk.of (cs := [He.cT K ("law", none)]) rfl F (glo _ (mem_i 22 rfl)) sc22 tr22 rfl hcs (fun z => nomatch z) bp22 (fun q hq => nomatch hq) (fun z => nomatch z)⟩
    | 23, e =>
      cases e
      obtain ⟨fd, F⟩ := cd.def_ 23 (d := d23) rfl
      exact ⟨_, fd, DefOk.of (cs := [He.cT K ("law", none)]) rfl F (glo _ (mem_i 23 rfl)) sc23 tr23 rfl hcs (fun z => nomatch z) bp23 (fun q hq => nomatch hq) (fun z => nomatch z)⟩
    | 24, e =>
      cases e
      obtain ⟨fd, F⟩ := cd.def_ 24 (d := d24) rfl
      exact ⟨_, fd, DefOk.of (cs := [He.cT K ("law", none)]) rfl F (glo _ (mem_i 24 rfl)) sc24 tr24 rfl hcs (fun z => nomatch z) bp24 (fun q hq => nomatch hq) (fun z => nomatch z)⟩
    | 25, e =>
      cases e
      obtain ⟨fd, F⟩ := cd.def_ 25 (d := d25) rfl
      exact ⟨_, fd, DefOk.of (cs := [He.cT K ("law", none)]) rfl F (glo _ (mem_i 25 rfl)) sc25 tr25 rfl hcs (fun z => nomatch z) bp25 (fun q hq => nomatch hq) (fun z => nomatch z)⟩
    | 26, e =>
      cases e
      obtain ⟨fd, F⟩ := cd.def_ 26 (d := d26) rfl
      exact ⟨_, fd, DefOk.of (cs := [He.cT K ("law", none)]) rfl F (glo _ (mem_i 26 rfl)) sc26 tr26 rfl hcs (fun z => nomatch z) bp26 (fun q hq => nomatch hq) (fun z => nomatch z)⟩
    | 27, e =>
      cases e
      obtain ⟨fd, F⟩ := cd.def_ 27 (d := d27) rfl
      exact ⟨_, fd, DefOk.of (cs := [He.cT K ("law", none)]) rfl F (glo _ (mem_i 27 rfl)) sc27 tr27 rfl hcs (fun _ => ⟨List.mem_singleton.mpr rfl, List.mem_singleton.mpr rfl, fun p hp _ => (congrArg Prod.snd (List.mem_singleton.mp hp) : p.2 = (lamT K "law").2)⟩) bp27 (fun q hq => nomatch hq) (fun z => nomatch z)⟩
    | i + 28, e => cases e
end
end Ev.K95
set_option Elab.async false
set_option linter.all false
set_option autoImplicit false
set_option maxRecDepth 100000
set_option maxHeartbeats 0
/-! K95e: the law holds if the evaluator says so. -/
namespace Ev
open PySem PySem.Spec PyProof.Rows L2 TL
theorem relL_ints {Γ : Gd} {ρ : Loc} {H : Hp} : ∀ ns : List Int, RelL Γ ρ H (ns.map D.int) (ns.map V.int)
  | [] => rfl
  | n :: ns => ⟨.int n, _, rfl, rfl, relL_ints ns⟩
/-- at the call, nothing has a name -/
theorem rm_start {Γ : Gd} {H : Hp} (h : ∀ p ∈ Γ.T, H p.1 = some (.tbl #[])) : Rm Γ (fun _ => none) [] H where
  at_ := fun n o e => by cases e
  inj := fun n m a e => by cases e
  dom := fun n a e => by cases e
  lst := fun n a e => by cases e
  low := ⟨0, fun n a e => by cases e⟩
  tab := fun p hp => LamX.TabS.nil (h p hp)
end Ev
namespace Ev.K95
open PySem PySem.Spec PySem.W PySem.Calls PyProof.Rows L2 TL Ev
theorem holds_of (plain : ∀ ns : List Int, ns.length ≤ 63 → ∃ S, callD G 10 27 [.frl (ns.map D.int)] [] = .ok (.bl true) S) : PySem.Challenge.rw_oneafter_k95_whole_commands_and_parts.Holds := by
  w_on; o_law
  refine HandSHeadRun.head_any (r := R) (q := PySem.W.view R.prog [43]) (H := hk) (ob := ob) (M := 4000) (loose := loose) (d := HandSHeadRun.topDef R.prog 43) (kwd := []) ob_eq
    (by kernel_rfl) (fun s => by kernel_rfl) run (by kernel_rfl) (by kernel_rfl) (by kernel_rfl) (by rfl) (by first | assumption | decide +kernel) (by decide +kernel) ⟨rfl, rfl, rfl, rfl, rfl, by decide +kernel⟩ ?hw ?hc
  case hw => w_witness2
  case hc =>
    refine Att.attach_call (l := PySem.Challenge.rw_oneafter_k95_whole_commands_and_parts) (n := 63) (by rfl) (by kernel_rfl) fun w s₀ s₁ mg mb f o pm cd doc a vs ns GG Y ho hd hcd hmg0 hobj hints hlen hg => ?_
    obtain ⟨K, KX, c⟩ := Y
    have hmg : mg ("law" : PySem.Str) = some (.ref f) := by
      have e : (HandSHeadRun.topDef R.prog 43).name = ("law" : PySem.Str) := by kernel_rfl
      rw [← e]
      exact hmg0
    obtain ⟨fd, F⟩ := c.t.d.def_ 27 (d := d27) rfl
    have ef := hmg.symm.trans (He.glo_ok KX GG.T.g (c.t.d.facts (f := .glo "law") (mem_i 27 rfl)))
    cases ef
    have Z : AtS K mg mb a vs ns [He.cT K ("law", none)] s₁ := {
      kin := KX, nsg := GG.T.g, nsb := GG.T.b, boot := GG.T.builtins, lim := GG.T.nolimit, gens := hg, bm := GG.T.bmain, scr := hobj, allI := hints
      tabs := fun p hp => by
        rw [List.mem_singleton.mp hp]
        exact c.empty ("law", none) (List.mem_singleton.mpr rfl)
      tabK := fun p hp => by
        rw [List.mem_singleton.mp hp]
        exact c.out ("law", none) (List.mem_singleton.mpr rfl)
      code := fun p hp => by
        rw [List.mem_singleton.mp hp]
        exact PySem.W.codeHd_of_K KX (c.hd ("law", none) (List.mem_singleton.mpr rfl))
      short := Nat.le_trans hlen (by decide)
      outK := noInts_ok (andT (andT c.more).2).1 KX hobj hints }
    have tabE : ∀ p ∈ (Gm K w).T, hpS a vs ns (tsOf [He.cT K ("law", none)]) p.1 = some (.tbl #[]) := fun p hp => by
      have ep : p = lamT K "law" := List.mem_singleton.mp hp
      rw [ep]
      rcases hpS_cases (a := a) (us := vs) (ns := ns) (ts := tsOf [He.cT K ("law", none)]) (lamT K "law").1 with ⟨q, _⟩ | ⟨_, _, z⟩ | ⟨_, y, _⟩
      · exact absurd (List.mem_singleton.mpr q.symm) Z.aT
      · exact z
      · exact absurd (List.mem_singleton.mpr rfl) y
    refine law_callG (g := true) (k := 30) (sp := SpD (Gm K w) (callD G 10) 27) (fd := fd) (x := "script") Z ⟨rfl, by decide +kernel, by decide +kernel⟩ (fun base KB GB hcs => ?_) (fun s u => FunD.bindsA (ps := ["script"]) F (fun _ _ _ _ _ _ us hl => match us, hl with | [_], _ => rfl) s [u] rfl) ?_
    · have M := mdl (P := (PySem.Challenge.rw_oneafter_k95_whole_commands_and_parts).prog) c KB GB hcs
      exact (allOk zipOk M 10).fns 27 fi27 _ fd rfl rfl (DefOk.of (cs := [He.cT K ("law", none)]) rfl F hmg sc27 tr27 rfl hcs (fun _ => ⟨List.mem_singleton.mpr rfl, List.mem_singleton.mpr rfl, fun p hp _ => (congrArg Prod.snd (List.mem_singleton.mp hp) : p.2 = (lamT K "law").2)⟩) bp27 (fun q hq => nomatch hq) (fun z => nomatch z))
    · obtain ⟨S, e⟩ := plain ns hlen
      refine ⟨fun _ => none, [], [.frl (ns.map D.int)], rm_start tabE, ⟨.ref a, [], rfl, ⟨a, ns.map V.int, scrO vs, rfl, hpS_a, relL_ints ns⟩, rfl⟩, ?_⟩
      rw [e]
      exact fun ρ' H' _ _ v rv => rv
end Ev.K95
set_option maxHeartbeats 8000000 in
theorem PySem.Challenge.cw_oneafter_k95_whole_commands_and_parts_holds : PySem.Challenge.rw_oneafter_k95_whole_commands_and_parts.Holds := by
  exact Ev.K95.holds_of Ev.K95.plain
