import PyProof.Rows.All
import HandS.List
import HandS.Text
import KE.KeyNested
import KE.SortData
import KE.DataMinMax
import Wide.All
import OpenK.AllK
import Wide.FinOn
import KE.KDictKeyed
import HandS.Exc
import HandS.Comp
import HandS.CallSlots
import HandS.OwnEq
import HandS.Property
import HandS.Deep
import HandS.TupAny
import HandS.TupMul
import HandS.IsInst
import HandS.Defaults
import HandS.Words
import HandS.WordsExc
import HandS.Dict
import HandS.Wide
import HandS.ExcIs
import KE.KExcSuper
import HandS.ExcInit
import HandS.HeadWalk
import HandS.More
import HandS.Star
import HandS.Iter
import HandS.DictComp
import KE.KTupSum
import HandS.RaiseMore
import HandS.Zip
import HandS.ExcOwn
import PyProof.Transfer
import HandS.ExcValue
import KE.KDictSum
import HandS.TryOnly
import HandS.Style
import KE.KStateDown
import HandS.Head0
import HandS.Head1
import HandS.Head2
import HandS.HeadEnd
import HandS.HeadHook1
import HandS.HeadHook2
import PySem.Challenge.RW_endworths_k06_whole_worst_rows
set_option Elab.async false
set_option linter.all false
set_option maxRecDepth 100000
/-! A small interpreter for the program's own part of Python, over values without a heap. -/
namespace R
open PySem

/-- a value: data that never changes, or a place in the store -/
inductive D where
  | non | bl (b : Bool) | int (i : Int) | str (x : Str)
  | tup (xs : List D) | lst (xs : List D) | dct (kvs : List (D × D))
  | ins (c : Nat) (ds : List D) | obj (n : Nat)
  /-- a list that is read by list(..) alone -/
  | scr (xs : List D)
instance : Inhabited D := ⟨.non⟩
/-- an object that may change -/
inductive O where
  | lst (xs : List D) | dct (kvs : List (D × D)) | ins (c : Nat) (ds : List D)
def O.d : O → D
  | .lst xs => .lst xs | .dct kvs => .dct kvs | .ins c ds => .ins c ds
inductive Sl where
  | un | val (d : D) | own (o : O) | exc (c : Nat) (ds : List D)
abbrev REnv := List Sl
abbrev Store := List O
/-- what an expression gives: a value, a new object that nobody else has, or a look at an own one -/
inductive Rv where
  | val (d : D) | own (o : O) | tmp (o : O)
inductive Out (α : Type) where
  | ok (a : α) (S : Store) | exc (c : Nat) (ds : List D) (S : Store) | bad
def Out.bind {α β : Type} : Out α → (α → Store → Out β) → Out β
  | .ok a S, f => f a S
  | .exc c ds S, _ => .exc c ds S
  | .bad, _ => .bad
@[simp] theorem Out.bind_ok {α β : Type} (a : α) (S : Store) (f : α → Store → Out β) : (Out.ok a S).bind f = f a S := rfl
@[simp] theorem Out.bind_exc {α β : Type} (c : Nat) (ds : List D) (S : Store) (f : α → Store → Out β) : (Out.exc c ds S).bind f = .exc c ds S := rfl
@[simp] theorem Out.bind_bad {α β : Type} (f : α → Store → Out β) : (Out.bad : Out α).bind f = .bad := rfl
inductive OutS where
  | nx (ρ : REnv) (S : Store) | rt (r : Rv) (S : Store) | bk (ρ : REnv) (S : Store) | exc (c : Nat) (ds : List D) (ρ : REnv) (S : Store) | bad

/-- made into a value -/
def Rv.frz : Rv → Option D
  | .val d => some d
  | .own o => some o.d
  | .tmp _ => none
/-- what is to be seen of it -/
def Rv.view (S : Store) : Rv → Option D
  | .val (.obj n) => (S[n]?).map O.d
  | .val d => some d
  | .own o => some o.d
  | .tmp o => some o.d

/-- what is to be seen of it, the store apart -/
def Rv.look : Rv → Option D
  | .val d => some d
  | .own o => some o.d
  | .tmp o => some o.d

/-! ### data -/
mutual
def py : D → Option PyData
  | .non => some .none
  | .bl b => some (.bool b)
  | .int i => some (.int i)
  | .str x => some (.str x)
  | .tup xs => (pyAll xs).map .tuple
  | .lst xs => (pyAll xs).map .list
  | .dct _ => none
  | .ins _ _ => none
  | .obj _ => none
  | .scr _ => none
def pyAll : List D → Option (List PyData)
  | [] => some []
  | x :: xs => match py x, pyAll xs with
    | some a, some b => some (a :: b)
    | _, _ => none
end
/-! ### keys of dicts -/
mutual
def nk : D → Option NestedKey
  | .non => some .none
  | .bl b => some (.num (if b = true then 1 else 0))
  | .int i => some (.num i)
  | .str x => some (.text x)
  | .tup xs => (nkAll xs).map .tup
  | .lst _ => none
  | .dct _ => none
  | .ins _ _ => none
  | .obj _ => none
  | .scr _ => none
def nkAll : List D → Option (List NestedKey)
  | [] => some []
  | x :: xs => match nk x, nkAll xs with
    | some a, some b => some (a :: b)
    | _, _ => none
end
/-- d[k] -/
def getD (kvs : List (D × D)) (k : NestedKey) : Option D := (kvs.find? fun e => decide (nk e.1 = some k)).map (·.2)
def putD (kvs : List (D × D)) (k : NestedKey) (kd v : D) : List (D × D) :=
  if (getD kvs k).isSome then kvs.map fun e => if nk e.1 = some k then (e.1, v) else e else kvs ++ [(kd, v)]
/-- a key: a tuple, not too deep -/
def keyOf : D → Option NestedKey
  | .tup xs => match nk (.tup xs) with
    | some k => if k.depth ≤ 8 then some k else none
    | none => none
  | _ => none
/-- == of data -/
def eqD (x y : D) : Option Bool := match py x, py y with
  | some a, some b => if SeqAt.shaped a && SeqAt.shaped b then some (PyData.eqv a b) else none
  | _, _ => none
/-- x in a list -/
def inD (x : D) (ys : List D) : Option Bool := match py x, pyAll ys with
  | some a, some bs => if SeqAt.shaped a && SeqAt.shaped (.list bs) then some (bs.any fun z => PyData.eqv z a) else none
  | _, _ => none
/-- texts alone -/
def strsOf : List D → Option (List Str)
  | [] => some []
  | .str x :: r => (strsOf r).map (x :: ·)
  | _ => none
/-- x in y: y a list, or x a text and y a tuple of texts -/
def isinop (x y : D) : Option Bool := match x, y with
  | x, .lst ys => inD x ys
  | .str x, .tup ys => (strsOf ys).map fun zs => zs.any fun z => z == x
  | x, .dct kvs => (keyOf x).map fun k => (getD kvs k).isSome
  | _, _ => none
def D.seq : D → Option (List D)
  | .lst xs => some xs
  | .tup xs => some xs
  | _ => none

/-! ### operations -/
inductive Bop where
  | add | sub | mul | fdiv | mod | pow
  deriving DecidableEq
inductive Cop where
  | eq | ne | lt | le | gt | ge
  deriving DecidableEq
def lim : Nat := 1000000
def vI (i : Int) : Option Rv := some (.val (.int i))
def vB (b : Bool) : Option Rv := some (.val (.bl b))
def big64 : Int := 18446744073709551616
def smallI (i : Int) : Bool := decide (-big64 < i) && decide (i < big64)
def reps (xs : List D) (n : Int) : List D := (List.replicate n.toNat xs).flatten
def binop : Bop → D → D → Option Rv
  | .add, .int i, .int j => vI (i + j)
  | .add, .lst xs, .lst ys => if xs.length + ys.length ≤ lim then some (.own (.lst (xs ++ ys))) else none
  | .add, .tup xs, .tup ys => if xs.length + ys.length ≤ lim then some (.val (.tup (xs ++ ys))) else none
  | .add, .str x, .str y => if x.length + y.length ≤ lim then some (.val (.str (x ++ y))) else none
  | .sub, .int i, .int j => vI (i - j)
  | .mul, .int i, .int j => if smallI i || smallI j then vI (i * j) else none
  | .mul, .lst xs, .int n => if decide (0 ≤ n) && decide (n < 9000000000000000000) && decide (xs.length * n.toNat ≤ lim) then some (.own (.lst (reps xs n))) else none
  | .mul, .tup xs, .int n => if decide (0 < xs.length) && decide (1 ≤ n) && decide (n ≤ 1000) && decide (xs.length ≤ 1000) then some (.val (.tup (reps xs n))) else none
  | .fdiv, .int i, .int j => if decide (0 < j) && decide (j.natAbs < 2 ^ 200) then vI (i / j) else none
  | .mod, .int i, .int j => if 0 < j then vI (i % j) else none
  | .pow, .int i, .int j => if decide (0 ≤ j) && decide (j ≤ 1000) && smallI i then vI (i ^ j.toNat) else none
  | _, _, _ => none
/-- equal entries -/
def sameD (ks ls : List (D × D)) : Bool := (ks.length == ls.length) && ks.all fun e => match nk e.1 with
  | some k => (match getD ls k with
    | some v => (match eqD e.2 v with
      | some b => b
      | none => false)
    | none => false)
  | none => false
def cmpop : Cop → D → D → Option Bool
  | .eq, x, y => eqD x y
  | .ne, x, y => (eqD x y).map (!·)
  | .lt, .int i, .int j => some (decide (i < j))
  | .le, .int i, .int j => some (decide (i ≤ j))
  | .gt, .int i, .int j => some (decide (j < i))
  | .ge, .int i, .int j => some (decide (j ≤ i))
  | _, _, _ => none
def idxop : D → D → Option D
  | .lst xs, .int i => L2.atI xs i
  | .tup xs, .int i => L2.atI xs i
  | .dct kvs, x => (keyOf x).bind fun k => getD kvs k
  | _, _ => none
def isNon : D → Bool
  | .non => true
  | _ => false

/-- whole numbers alone -/
def intsOf : List D → Option (List Int)
  | [] => some []
  | .int i :: r => (intsOf r).map (i :: ·)
  | _ => none
def blsOf : List D → Option (List Bool)
  | [] => some []
  | .bl i :: r => (blsOf r).map (i :: ·)
  | _ => none
/-- the greatest -/
def maxI : List Int → Option Int
  | [] => none
  | x :: xs => some (xs.foldl max x)
/-! ### order of data -/
def isNonP : PyData → Bool
  | .none => true
  | _ => false
def alikeB (ps : List PyData) : Bool := (ps.all fun x => ps.all fun y => PySem.W.alike x y) && (ps.all fun x => !isNonP x) && decide (PyData.depthAll ps ≤ 50)
def ltB (x y : D) : Bool := match py x, py y with
  | some a, some b => PySem.W.dataLt a b
  | _, _ => false
/-- the least -/
def minL : List D → Option D
  | [] => none
  | x :: xs => match pyAll (x :: xs) with
    | some ps => if alikeB ps then some (xs.foldl (fun a y => if ltB y a then y else a) x) else none
    | none => none
def sortableB (ps : List PyData) : Bool := (ps.all fun d => match d with
  | .tuple (_ :: _) => true
  | _ => false) || (ps.all fun d => match d with
  | .none => false
  | .tuple _ => false
  | _ => true)
def insLe {α : Type} (le : α → α → Bool) (x : α) : List α → List α
  | [] => [x]
  | y :: ys => if le x y then x :: y :: ys else y :: insLe le x ys
def isort {α : Type} (le : α → α → Bool) : List α → List α
  | [] => []
  | x :: xs => insLe le x (isort le xs)
/-- the order of data -/
def leB (rev : Bool) (a b : D) : Bool := if rev then !ltB a b else !ltB b a
def sortL (rev : Bool) (ds : List D) : Option (List D) := match pyAll ds with
  | some ps => if alikeB ps && sortableB ps && decide (ds.length ≤ lim) then some (isort (leB rev) ds) else none
  | none => none
/-- a builtin of one argument: sum, max, all, tuple, any, min, sorted, sorted of a dict, str -/
def bltop : Nat → D → Option Rv
  | 0, d => ((D.seq d).bind intsOf).map fun ns => .val (.int ns.sum)
  | 1, .lst ds => ((intsOf ds).bind maxI).map fun k => .val (.int k)
  | 2, .lst ds => (blsOf ds).map fun k => .val (.bl (k.all id))
  | 3, d => (D.seq d).map fun ds => .val (.tup ds)
  | 4, .lst ds => (blsOf ds).map fun k => .val (.bl (k.any id))
  | 5, .lst ds => (minL ds).map fun d => .val d
  | 6, .lst ds => (sortL false ds).map fun l => .own (.lst l)
  | 7, .dct kvs => (sortL false (kvs.map (·.1))).map fun l => .own (.lst l)
  | 8, .int i => if decide (i.natAbs < 1000000) then some (.val (.str (toString i : String))) else none
  | 8, .str x => some (.val (.str x))
  | 9, .lst ds => (sortL true ds).map fun l => .own (.lst l)
  | _, _ => none
/-- a builtin of two arguments: max, min of numbers -/
def blt2op : Nat → D → D → Option Rv
  | 0, .int i, .int j => some (.val (.int (max i j)))
  | 1, .int i, .int j => some (.val (.int (min i j)))
  | _, _, _ => none
/-- a text's method with one argument: split, join, strip -/
def smop : Nat → D → D → Option Rv
  | 0, .str x, .str y => if !(y.length == 0) && decide (x.length ≤ lim) then some (.own (.lst ((Txt.split x y).map D.str))) else none
  | 1, .str x, d => ((D.seq d).bind strsOf).bind fun ys => if decide (ys.length ≤ 10000) && decide (x.length ≤ 100) && (ys.all fun y => decide (y.length ≤ 1000)) then some (.val (.str (Txt.join x ys))) else none
  | 2, .str x, .str y => if decide (x.length ≤ lim) then some (.val (.str (Txt.stripChars x y))) else none
  | _, _, _ => none

/-- a[lo:hi] -/
def cutD (xs : List D) (lo hi : Option Int) : List D := (xs.drop (HT.sIx xs.length 0 lo)).take (HT.sIx xs.length xs.length hi - HT.sIx xs.length 0 lo)
def sliceD : D → Option Int → Option Int → Option Rv
  | .tup xs, lo, hi => some (.val (.tup (cutD xs lo hi)))
  | .lst xs, lo, hi => some (.own (.lst (cutD xs lo hi)))
  | _, _, _ => none

/-- a[lo::step] -/
def stepD (xs : List D) (st : Nat) : List D := (List.range ((xs.length + st - 1) / st)).filterMap fun i => xs[i * st]?
def sliceS : D → Int → Int → Option Rv
  | .tup xs, lo, st => if decide (0 ≤ lo) && decide (2 ≤ st) && decide (st ≤ 1000) && decide (lo ≤ 1000) && decide (xs.length ≤ 100000) then some (.val (.tup (stepD (xs.drop lo.toNat) st.toNat))) else none
  | _, _, _ => none
def enumD : Nat → List D → List D
  | _, [] => []
  | i, x :: xs => .tup [.int i, x] :: enumD (i + 1) xs

/-! ### the text -/
mutual
inductive E where
  | var (i : Nat) | peek (i : Nat) | glb (g : Nat)
  | cst (d : D)
  | bin (op : Bop) (a b : E)
  | neg (a : E) | not (a : E)
  | and (a b : E) | or (a b : E)
  | cmp (op : Cop) (a b : E)
  | chain (op op' : Cop) (a b c : E)
  | isin (neg : Bool) (a b : E)
  | isNone (neg : Bool) (a : E)
  | ite (c a b : E)
  | tup (es : Es) | lst (es : Es)
  | idx (a i : E)
  | fld (c j : Nat) (a : E)
  | prop (c f : Nat) (a : E)
  | excIs (i c : Nat) | excFld (i c j : Nat)
  | call (f : Nat) (es : Es)
  | make (c f : Nat) (es : Es)
  | meth (c f : Nat) (o : E) (es : Es)
  | eqOwn (neg : Bool) (c f : Nat) (a b : E)
  | toInt (a : E) | toList (a : E) | len (a : E) | isi (ty : Nat) (a : E) | isiC (c : Nat) (a : E)
  | comp1 (own : List Nat) (tg : List Nat) (it : I) (c : E) (elt : E)
  | mk (a : E)
  | blt (b : Nat) (a : E)
  | slc (a lo hi : E)
  | slcL (a hi : E) | slcR (a lo : E)
  | slcS (a lo st : E)
  | dct0
  | blt2 (b : Nat) (x y : E)
  | smeth (b : Nat) (x y : E)
  | lenO (c f : Nat) (a : E)
  | eqDct (a b : E)
  | compN (own : List Nat) (tg : List Nat) (it : I) (c : E) (cs : Cs) (elt : E)
  | compD (own : List Nat) (tg : List Nat) (it : I) (c : E) (cs : Cs) (k v : E)
inductive Es where
  | nil | cons (e : E) (es : Es) | star (e : E) (es : Es)
/-- what is walked -/
inductive I where
  | seq (e : E) | seqF (e : E) | rng1 (a : E) | rng2 (a b : E)
  | rng3 (a b c : E) | zip2 (a b : E) | enum (a : E) | keys (a : E)
/-- further clauses of a comprehension -/
inductive Cs where
  | nil | cons (ws tg : List Nat) (it : I) (c : E) (cs : Cs)
end
/-- a star among the arguments -/
def Es.starry : Es → Bool
  | .nil => false
  | .star _ _ => true
  | .cons _ es => es.starry
def I.stays : I → Bool
  | .seq _ => false
  | _ => true

mutual
inductive T where
  | skip | seq (a b : T)
  | expr (e : E)
  | asg (i : Nat) (e : E) | asgO (i : Nat) (e : E)
  | tupl (is : List Nat) (e : E)
  | par (is : List Nat) (es : Es)
  | setI (o i e : E) | setIO (s : Nat) (i e : E)
  | setF (c j : Nat) (o e : E) | setFO (c j : Nat) (e : E)
  | app (o e : E) | appO (s : Nat) (e : E)
  | ite (c : E) (a b : T) | whil (n : Nat) (c : E) (b : T) | for_ (tg : List Nat) (it : I) (b : T)
  | ret (e : E) | retO (i : Nat) | retN
  | brk
  | parM (is : List (Nat × Bool)) (es : Es)
  | aug (i : Nat) (op : Bop) (e : E)
  | ext (o e : E) | extO (s : Nat) (e : E)
  | popT (o : E)
  | rais (c : Nat) (es : Es)
  | tryx (b : T) (h : Hs)
  | dead
inductive Hs where
  | nil | cons (c : Nat) (i : Option Nat) (s : T) (rest : Hs)
end

structure Fd where
  ctor : Option Nat := none
  nslots : Nat
  nargs : Nat
  body : T

abbrev Calls := Nat → List D → Store → Out Rv
structure Tab where
  /-- the module's constants -/
  gl : Nat → Option D
  fd : Nat → Option Fd
  /-- is the class (first) the other one, or below it -/
  sub : Nat → Nat → Option Bool
  /-- the fields of a class (how many) -/
  nf : Nat → Nat
  /-- the program's own classes (no exceptions) -/
  cls : Nat → Bool
  /-- an exception may be made of these -/
  rx : Nat → List D → Bool
/-- a value whose type is known -/
def okTy (X : Tab) : D → Bool
  | .ins k _ => X.cls k
  | .obj _ => false
  | .scr _ => false
  | _ => true

section
variable (X : Tab) (C : Calls)
def putAll (ρ : REnv) : List Nat → List D → REnv
  | i :: is, d :: ds => putAll (ρ.set i (.val d)) is ds
  | _, _ => ρ
/-- targets: one name, or names that a sequence is parted among -/
def putT (ρ : REnv) (is : List Nat) : D → Option REnv
  | .tup xs => if xs.length = is.length then some (putAll ρ is xs) else none
  | _ => none
def put (ρ : REnv) (is : List Nat) (d : D) : Option REnv := match is with
  | [i] => some (ρ.set i (.val d))
  | is => putT ρ is d
def compLoop (f : D → Store → Out (Option D)) : List D → List D → Store → Out (List D)
  | [], acc, S => .ok acc S
  | x :: xs, acc, S => (f x S).bind fun r S1 => match r with
    | some d => compLoop f xs (acc ++ [d]) S1
    | none => compLoop f xs acc S1
def itLoop (f : D → Store → O → Out O) : List D → Store → O → Out O
  | [], S, acc => .ok acc S
  | x :: xs, S, acc => (f x S acc).bind fun acc1 S1 => itLoop f xs S1 acc1
def wipeE (ρ : REnv) (is : List Nat) : REnv := is.foldr (fun i ρ => ρ.set i .un) ρ
/-- exceptions do not leave a comprehension here -/
def Out.nox {α : Type} : Out α → Out α
  | .exc _ _ _ => .bad
  | o => o
def tyIs : Nat → D → Option Bool
  | 0, .int _ => some true | 0, .bl _ => some true | 0, .obj _ => none | 0, .scr _ => none | 0, _ => some false
  | 1, .bl _ => some true | 1, .obj _ => none | 1, .scr _ => none | 1, _ => some false
  | 2, .str _ => some true | 2, .obj _ => none | 2, .scr _ => none | 2, _ => some false
  | 3, .tup _ => some true | 3, .obj _ => none | 3, .scr _ => none | 3, _ => some false
  | 4, .lst _ => some true | 4, .obj _ => none | 4, .scr _ => none | 4, _ => some false
  | 5, .dct _ => some true | 5, .obj _ => none | 5, .scr _ => none | 5, _ => some false
  | _, _ => none
mutual
def evE : E → REnv → Store → Out Rv
  | .var i, ρ, S => match ρ[i]? with
    | some (.val d) => .ok (.val d) S
    | _ => .bad
  | .peek i, ρ, S => match ρ[i]? with
    | some (.own o) => .ok (.tmp o) S
    | _ => .bad
  | .glb g, _, S => match X.gl g with
    | some d => .ok (.val d) S
    | none => .bad
  | .cst d, _, S => .ok (.val d) S
  | .bin op a b, ρ, S => (evE a ρ S).bind fun ra S1 => (evE b ρ S1).bind fun rb S2 => match ra.view S2, rb.view S2 with
    | some x, some y => match binop op x y with
      | some r => .ok r S2
      | none => .bad
    | _, _ => .bad
  | .neg a, ρ, S => (evE a ρ S).bind fun ra S1 => match ra with
    | .val (.int i) => .ok (.val (.int (-i))) S1
    | _ => .bad
  | .not a, ρ, S => (evE a ρ S).bind fun ra S1 => match ra with
    | .val (.bl b) => .ok (.val (.bl (!b))) S1
    | _ => .bad
  | .and a b, ρ, S => (evE a ρ S).bind fun ra S1 => match ra with
    | .val (.bl true) => evE b ρ S1
    | .val (.bl false) => .ok (.val (.bl false)) S1
    | _ => .bad
  | .or a b, ρ, S => (evE a ρ S).bind fun ra S1 => match ra with
    | .val (.bl true) => .ok (.val (.bl true)) S1
    | .val (.bl false) => evE b ρ S1
    | _ => .bad
  | .cmp op a b, ρ, S => (evE a ρ S).bind fun ra S1 => (evE b ρ S1).bind fun rb S2 => match ra.view S2, rb.view S2 with
    | some x, some y => match cmpop op x y with
      | some r => .ok (.val (.bl r)) S2
      | none => .bad
    | _, _ => .bad
  | .chain op op' a b c, ρ, S => (evE a ρ S).bind fun ra S1 => (evE b ρ S1).bind fun rb S2 => match ra, rb with
    | .val (.int i), .val (.int j) => match cmpop op (.int i) (.int j) with
      | some true => (evE c ρ S2).bind fun rc S3 => match rc with
        | .val (.int l) => match cmpop op' (.int j) (.int l) with
          | some r => .ok (.val (.bl r)) S3
          | none => .bad
        | _ => .bad
      | some false => .ok (.val (.bl false)) S2
      | none => .bad
    | _, _ => .bad
  | .isin neg a b, ρ, S => (evE a ρ S).bind fun ra S1 => (evE b ρ S1).bind fun rb S2 => match ra.view S2, rb.view S2 with
    | some x, some y => match isinop x y with
      | some r => .ok (.val (.bl (r != neg))) S2
      | none => .bad
    | _, _ => .bad
  | .isNone neg a, ρ, S => (evE a ρ S).bind fun ra S1 => match ra with
    | .val d => .ok (.val (.bl (isNon d != neg))) S1
    | _ => .bad
  | .ite c a b, ρ, S => (evE c ρ S).bind fun rc S1 => match rc with
    | .val (.bl true) => evE a ρ S1
    | .val (.bl false) => evE b ρ S1
    | _ => .bad
  | .tup es, ρ, S => (evL es ρ S).bind fun ds S1 => if ds.length ≤ lim then .ok (.val (.tup ds)) S1 else .bad
  | .lst es, ρ, S => (evL es ρ S).bind fun ds S1 => if ds.length ≤ lim then .ok (.own (.lst ds)) S1 else .bad
  | .idx a i, ρ, S => (evE a ρ S).bind fun ra S1 => (evE i ρ S1).bind fun ri S2 => match ra.view S2, ri.view S2 with
    | some x, some y => match idxop x y with
      | some r => .ok (.val r) S2
      | none => .bad
    | _, _ => .bad
  | .fld c j a, ρ, S => (evE a ρ S).bind fun ra S1 => match ra.view S1 with
    | some (.ins c' ds) => if c' = c ∧ X.cls c = true then (match ds[j]? with
      | some d => .ok (.val d) S1
      | none => .bad) else .bad
    | _ => .bad
  | .prop c f a, ρ, S => (evE a ρ S).bind fun ra S1 => match ra with
    | .val d => match (Rv.val d).view S1 with
      | some (.ins c' _) => if c' = c then (C f [d] S1).nox else .bad
      | _ => .bad
    | _ => .bad
  | .excIs i c, ρ, S => match ρ[i]? with
    | some (.exc c' []) => (match X.sub c' c with
      | some b => .ok (.val (.bl b)) S
      | none => .bad)
    | _ => .bad
  | .excFld i c j, ρ, S => match ρ[i]? with
    | some (.exc c' ds) => if c' = c then (match ds[j]? with
      | some d => .ok (.val d) S
      | none => .bad) else .bad
    | _ => .bad
  | .call f es, ρ, S => (evL es ρ S).bind fun ds S1 => C f ds S1
  | .make c f es, ρ, S => (evL es ρ S).bind fun ds S1 => (C f ds S1).bind fun r S2 => match r with
    | .own (.ins c' fs) => if c' = c then .ok (.own (.ins c fs)) S2 else .bad
    | _ => .bad
  | .meth c f o es, ρ, S => (evE o ρ S).bind fun ro S1 => match ro with
    | .val d => match (Rv.val d).view S1 with
      | some (.ins c' _) => if c' = c then (evL es ρ S1).bind fun ds S2 => if es.starry then (C f (d :: ds) S2).nox else C f (d :: ds) S2 else .bad
      | _ => .bad
    | _ => .bad
  | .eqOwn neg c f a b, ρ, S => (evE a ρ S).bind fun ra S1 => (evE b ρ S1).bind fun rb S2 => match ra, rb.frz with
    | .val (.ins c' ds), some y => if c' = c ∧ okTy X y = true then (C f [.ins c' ds, y] S2).nox.bind fun r S3 => (match r with
      | .val (.bl q) => .ok (.val (.bl (q != neg))) S3
      | _ => .bad) else .bad
    | _, _ => .bad
  | .toInt a, ρ, S => (evE a ρ S).bind fun ra S1 => match ra with
    | .val (.int i) => .ok (.val (.int i)) S1
    | .val (.bl b) => .ok (.val (.int (if b then 1 else 0))) S1
    | .val (.str x) => (match PySem.intText? x with
      | some n => if x.length ≤ 640 then .ok (.val (.int n)) S1 else .bad
      | none => .bad)
    | _ => .bad
  | .toList a, ρ, S => (evE a ρ S).bind fun ra S1 => match ra.view S1 with
    | some (.lst xs) => .ok (.own (.lst xs)) S1
    | some (.tup xs) => .ok (.own (.lst xs)) S1
    | some (.scr xs) => .ok (.own (.lst xs)) S1
    | _ => .bad
  | .len a, ρ, S => (evE a ρ S).bind fun ra S1 => match ra.view S1 with
    | some (.lst xs) => .ok (.val (.int xs.length)) S1
    | some (.tup xs) => .ok (.val (.int xs.length)) S1
    | some (.dct kvs) => .ok (.val (.int kvs.length)) S1
    | _ => .bad
  | .isi ty a, ρ, S => (evE a ρ S).bind fun ra S1 => match ra.view S1 with
    | some d => match tyIs ty d with
      | some b => if okTy X d then .ok (.val (.bl b)) S1 else .bad
      | none => .bad
    | none => .bad
  | .isiC c a, ρ, S => (evE a ρ S).bind fun ra S1 => match ra.view S1 with
    | some d => if okTy X d then .ok (.val (.bl (match d with
      | .ins c' _ => c' == c
      | _ => false))) S1 else .bad
    | none => .bad
  | .comp1 own tg it c elt, ρ, S => (evI it ρ S).bind fun xs S1 => if xs.length ≤ 100000 then (compLoop (fun x S => match put (wipeE ρ own) tg x with
        | some ρ1 => ((evE c ρ1 S).bind fun rc S1 => match rc with
          | .val (.bl true) => (evE elt ρ1 S1).bind fun r S2 => (match r.frz with
            | some d => .ok (some d) S2
            | none => .bad)
          | .val (.bl false) => .ok none S1
          | _ => .bad).nox
        | none => .bad) xs [] S1).bind (fun ds S2 => .ok (.own (.lst ds)) S2) else .bad
  | .mk a, ρ, S => (evE a ρ S).bind fun ra S1 => match ra with
    | .own o => .ok (.val (.obj S1.length)) (S1 ++ [o])
    | _ => .bad
  | .slc a b c, ρ, S => (evE a ρ S).bind fun ra S1 => (evE b ρ S1).bind fun rb S2 => match rb with
    | .val (.int i) => (evE c ρ S2).bind fun rc S3 => (match rc with
      | .val (.int j) => (match ra.view S3 with
        | some d => (match sliceD d (some i) (some j) with
          | some r => .ok r S3
          | none => .bad)
        | none => .bad)
      | _ => .bad)
    | _ => .bad
  | .blt b a, ρ, S => (evE a ρ S).bind fun ra S1 => match ra.view S1 with
    | some d => match bltop b d with
      | some r => .ok r S1
      | none => .bad
    | none => .bad
  | .slcL a c, ρ, S => (evE a ρ S).bind fun ra S1 => (evE c ρ S1).bind fun rc S3 => (match rc with
      | .val (.int j) => (match ra.view S3 with
        | some d => (match sliceD d none (some j) with
          | some r => .ok r S3
          | none => .bad)
        | none => .bad)
      | _ => .bad)
  | .slcR a b, ρ, S => (evE a ρ S).bind fun ra S1 => (evE b ρ S1).bind fun rb S3 => (match rb with
      | .val (.int i) => (match ra.view S3 with
        | some d => (match sliceD d (some i) none with
          | some r => .ok r S3
          | none => .bad)
        | none => .bad)
      | _ => .bad)
  | .slcS a b c, ρ, S => (evE a ρ S).bind fun ra S1 => (evE b ρ S1).bind fun rb S2 => match rb with
    | .val (.int i) => (evE c ρ S2).bind fun rc S3 => (match rc with
      | .val (.int j) => (match ra.view S3 with
        | some d => (match sliceS d i j with
          | some r => .ok r S3
          | none => .bad)
        | none => .bad)
      | _ => .bad)
    | _ => .bad
  | .dct0, _, S => .ok (.own (.dct [])) S
  | .blt2 b x y, ρ, S => (evE x ρ S).bind fun ra S1 => (evE y ρ S1).bind fun rb S2 => match ra.view S2, rb.view S2 with
    | some x, some y => match blt2op b x y with
      | some r => .ok r S2
      | none => .bad
    | _, _ => .bad
  | .smeth b x y, ρ, S => (evE x ρ S).bind fun ra S1 => (evE y ρ S1).bind fun rb S2 => match ra.view S2, rb.view S2 with
    | some x, some y => match smop b x y with
      | some r => .ok r S2
      | none => .bad
    | _, _ => .bad
  | .lenO c f a, ρ, S => (evE a ρ S).bind fun ra S1 => match ra with
    | .val d => match (Rv.val d).view S1 with
      | some (.ins c' _) => if c' = c then ((C f [d] S1).nox.bind fun r S2 => match r with
        | .val (.int n) => if decide (0 ≤ n) && decide (n ≤ 1000000) then .ok (.val (.int n)) S2 else .bad
        | _ => .bad) else .bad
      | _ => .bad
    | _ => .bad
  | .eqDct a b, ρ, S => (evE a ρ S).bind fun ra S1 => (evE b ρ S1).bind fun rb S2 => match ra.view S2, rb.view S2 with
    | some (.dct ks), some (.dct ls) => if sameD ks ls then .ok (.val (.bl true)) S2 else .bad
    | _, _ => .bad
  | .compN own tg it c cs elt, ρ, S => (evI it ρ S).bind fun xs S1 => if xs.length ≤ 100000 then (itLoop (fun x S acc => match put (wipeE ρ own) tg x with
        | some ρ1 => (evE c ρ1 S).bind fun rc S1 => (match rc with
          | .val (.bl true) => evC cs (fun ρ2 S2 acc => (evE elt ρ2 S2).bind fun r S3 => match r.frz, acc with
            | some d, .lst ys => if ys.length < lim then .ok (.lst (ys ++ [d])) S3 else .bad
            | _, _ => .bad) ρ1 S1 acc
          | .val (.bl false) => .ok acc S1
          | _ => .bad)
        | none => .bad) xs S1 (.lst [])).nox.bind (fun acc S2 => .ok (.own acc) S2) else .bad
  | .compD own tg it c cs k v, ρ, S => (evI it ρ S).bind fun xs S1 => if xs.length ≤ 100000 then (itLoop (fun x S acc => match put (wipeE ρ own) tg x with
        | some ρ1 => (evE c ρ1 S).bind fun rc S1 => (match rc with
          | .val (.bl true) => evC cs (fun ρ2 S2 acc => (evE k ρ2 S2).bind fun rk S3 => match rk with
            | .val dk => (evE v ρ2 S3).bind fun rv S4 => (match rv.frz, keyOf dk, acc with
              | some d, some κ, .dct kvs => if kvs.length < lim then .ok (.dct (putD kvs κ dk d)) S4 else .bad
              | _, _, _ => .bad)
            | _ => .bad) ρ1 S1 acc
          | .val (.bl false) => .ok acc S1
          | _ => .bad)
        | none => .bad) xs S1 (.dct [])).nox.bind (fun acc S2 => .ok (.own acc) S2) else .bad
def evC : Cs → (REnv → Store → O → Out O) → REnv → Store → O → Out O
  | .nil, em, ρ, S, acc => em ρ S acc
  | .cons ws tg it c cs, em, ρ, S, acc => (evI it ρ S).bind fun xs S1 => if xs.length ≤ 100000 then itLoop (fun x S acc => match put (wipeE ρ ws) tg x with
        | some ρ1 => (evE c ρ1 S).bind fun rc S1 => (match rc with
          | .val (.bl true) => evC cs em ρ1 S1 acc
          | .val (.bl false) => .ok acc S1
          | _ => .bad)
        | none => .bad) xs S1 acc else .bad
def evL : Es → REnv → Store → Out (List D)
  | .nil, _, S => .ok [] S
  | .cons e es, ρ, S => (evE e ρ S).bind fun r S1 => match r.frz with
    | some d => (evL es ρ S1).bind fun ds S2 => .ok (d :: ds) S2
    | none => .bad
  | .star e es, ρ, S => (evE e ρ S).bind fun r S1 => match r.frz.bind D.seq with
    | some xs => (evL es ρ S1).bind fun ds S2 => .ok (xs ++ ds) S2
    | none => .bad
def evI : I → REnv → Store → Out (List D)
  | .seq e, ρ, S => (evE e ρ S).bind fun r S1 => match r.look.bind D.seq with
    | some xs => .ok xs S1
    | none => .bad
  | .seqF e, ρ, S => (evE e ρ S).bind fun r S1 => match r.frz.bind D.seq with
    | some xs => .ok xs S1
    | none => .bad
  | .rng1 a, ρ, S => (evE a ρ S).bind fun ra S1 => match ra with
    | .val (.int n) => if decide (-100000 ≤ n) && decide (n ≤ 100000) then .ok ((List.range n.toNat).map fun (i : Nat) => D.int (0 + i)) S1 else .bad
    | _ => .bad
  | .rng2 a b, ρ, S => (evE a ρ S).bind fun ra S1 => match ra with
    | .val (.int m) => (evE b ρ S1).bind fun rb S2 => (match rb with
      | .val (.int n) => if decide (-100000 ≤ m) && decide (m ≤ 100000) && decide (-100000 ≤ n) && decide (n ≤ 100000) then .ok ((List.range (n - m).toNat).map fun (i : Nat) => D.int (m + i)) S2 else .bad
      | _ => .bad)
    | _ => .bad
  | .rng3 a b c, ρ, S => (evE a ρ S).bind fun ra S1 => match ra with
    | .val (.int m) => (evE b ρ S1).bind fun rb S2 => (match rb with
      | .val (.int n) => (evE c ρ S2).bind fun rc S3 => (match rc with
        | .val (.int c) => if decide (-100000 ≤ m) && decide (m ≤ 100000) && decide (-100000 ≤ n) && decide (n ≤ 100000) && decide (1 ≤ c) && decide (c ≤ 1000) then .ok ((List.range ((n - m + c - 1) / c).toNat).map fun (i : Nat) => D.int (m + i * c)) S3 else .bad
        | _ => .bad)
      | _ => .bad)
    | _ => .bad
  | .zip2 a b, ρ, S => (evE a ρ S).bind fun ra S1 => match ra.frz with
    | some da => (evE b ρ S1).bind fun rb S2 => (match da, rb.frz with
      | .lst xs, some (.lst ys) => .ok (List.zipWith (fun x y => D.tup [x, y]) xs ys) S2
      | .tup xs, some (.tup ys) => .ok (List.zipWith (fun x y => D.tup [x, y]) xs ys) S2
      | _, _ => .bad)
    | none => .bad
  | .enum a, ρ, S => (evE a ρ S).bind fun ra S1 => match ra.frz with
    | some (.lst xs) => if xs.length ≤ 100000 then .ok (enumD 0 xs) S1 else .bad
    | _ => .bad
  | .keys a, ρ, S => (evE a ρ S).bind fun ra S1 => match ra.frz with
    | some (.dct kvs) => .ok (kvs.map (·.1)) S1
    | _ => .bad
end

def forLoop (f : D → REnv → Store → OutS) : List D → REnv → Store → OutS
  | [], ρ, S => .nx ρ S
  | x :: xs, ρ, S => match f x ρ S with
    | .nx ρ1 S1 => forLoop f xs ρ1 S1
    | .bk ρ1 S1 => .nx ρ1 S1
    | o => o
def whileLoop (c : REnv → Store → Out Rv) (f : REnv → Store → OutS) : Nat → REnv → Store → OutS
  | 0, _, _ => .bad
  | n + 1, ρ, S => match c ρ S with
    | .ok (.val (.bl true)) S1 => (match f ρ S1 with
      | .nx ρ1 S2 => whileLoop c f n ρ1 S2
      | .bk ρ1 S2 => .nx ρ1 S2
      | o => o)
    | .ok (.val (.bl false)) S1 => .nx ρ S1
    | .exc k ds S1 => .exc k ds ρ S1
    | _ => .bad
/-- an expression's outcome, then a statement's -/
def Out.thn {α : Type} (ρ : REnv) (o : Out α) (f : α → Store → OutS) : OutS := match o with
  | .ok a S => f a S
  | .exc c ds S => .exc c ds ρ S
  | .bad => .bad
@[simp] theorem Out.thn_ok {α : Type} (ρ : REnv) (a : α) (S : Store) (f : α → Store → OutS) : (Out.ok a S).thn ρ f = f a S := rfl
@[simp] theorem Out.thn_exc {α : Type} (ρ : REnv) (c : Nat) (ds : List D) (S : Store) (f : α → Store → OutS) : (Out.exc c ds S).thn ρ f = .exc c ds ρ S := rfl
@[simp] theorem Out.thn_bad {α : Type} (ρ : REnv) (f : α → Store → OutS) : (Out.bad : Out α).thn ρ f = .bad := rfl
def OutS.thn (o : OutS) (f : REnv → Store → OutS) : OutS := match o with
  | .nx ρ S => f ρ S
  | o => o
@[simp] theorem OutS.thn_nx (ρ : REnv) (S : Store) (f : REnv → Store → OutS) : (OutS.nx ρ S).thn f = f ρ S := rfl
@[simp] theorem OutS.thn_rt (r : Rv) (S : Store) (f : REnv → Store → OutS) : (OutS.rt r S).thn f = .rt r S := rfl
@[simp] theorem OutS.thn_bk (ρ : REnv) (S : Store) (f : REnv → Store → OutS) : (OutS.bk ρ S).thn f = .bk ρ S := rfl
@[simp] theorem OutS.thn_exc (c : Nat) (ds : List D) (ρ : REnv) (S : Store) (f : REnv → Store → OutS) : (OutS.exc c ds ρ S).thn f = .exc c ds ρ S := rfl
@[simp] theorem OutS.thn_bad (f : REnv → Store → OutS) : OutS.bad.thn f = .bad := rfl
/-- a slot may be stored to: it is no object under construction -/
def free1 (ρ : REnv) (i : Nat) : Bool := match ρ[i]? with
  | some (.own (.ins _ _)) => false
  | some _ => true
  | none => false
def notIns : O → Bool
  | .ins _ _ => false
  | _ => true
def setO : O → D → D → Option O
  | .lst xs, .int i, d => (L2.ixN xs.length i).map fun n => .lst (xs.set n d)
  | .dct kvs, x, d => (keyOf x).bind fun k => if kvs.length < lim then some (.dct (putD kvs k x d)) else none
  | _, _, _ => none
def notExc : Sl → Bool
  | .exc _ _ => false
  | _ => true
/-- behind a suite -/
def backE : OutS → OutS
  | .nx ρ S => if ρ.all notExc then .nx ρ S else .bad
  | .bk ρ S => if ρ.all notExc then .bk ρ S else .bad
  | .rt r S => .rt r S
  | _ => .bad
/-- .. whose name goes -/
def goneE (i : Nat) : OutS → OutS
  | .nx ρ S => if (ρ.set i .un).all notExc then .nx (ρ.set i .un) S else .bad
  | .bk ρ S => if (ρ.set i .un).all notExc then .bk (ρ.set i .un) S else .bad
  | .rt r S => .rt r S
  | _ => .bad
/-- several values, some of them kept as own objects -/
def evM : Es → List Bool → REnv → Store → Out (List Sl)
  | .nil, [], _, S => .ok [] S
  | .cons e es, b :: bs, ρ, S => (evE X C e ρ S).bind fun r S1 => match b, r with
    | true, .own o => if notIns o then (evM es bs ρ S1).bind (fun ss S2 => .ok (.own o :: ss) S2) else .bad
    | false, r => (match r.frz with
      | some d => (evM es bs ρ S1).bind fun ss S2 => .ok (.val d :: ss) S2
      | none => .bad)
    | _, _ => .bad
  | _, _, _, _ => .bad
def putM (ρ : REnv) : List Nat → List Sl → REnv
  | i :: is, s :: ss => putM (ρ.set i s) is ss
  | _, _ => ρ
mutual
def exT : T → REnv → Store → OutS
  | .skip, ρ, S => .nx ρ S
  | .seq a b, ρ, S => (exT a ρ S).thn fun ρ1 S1 => exT b ρ1 S1
  | .expr e, ρ, S => (evE X C e ρ S).thn ρ fun _ S1 => .nx ρ S1
  | .asg i e, ρ, S => (evE X C e ρ S).thn ρ fun r S1 => match r.frz with
    | some d => if free1 ρ i then .nx (ρ.set i (.val d)) S1 else .bad
    | none => .bad
  | .asgO i e, ρ, S => (evE X C e ρ S).thn ρ fun r S1 => match r with
    | .own o => if free1 ρ i && notIns o && decide (i < ρ.length) then .nx (ρ.set i (.own o)) S1 else .bad
    | _ => .bad
  | .tupl is e, ρ, S => (evE X C e ρ S).thn ρ fun r S1 => match r.frz with
    | some (.tup xs) => if is.all (free1 ρ) && (xs.length == is.length) then .nx (putAll ρ is xs) S1 else .bad
    | some (.lst xs) => if is.all (free1 ρ) && (xs.length == is.length) then .nx (putAll ρ is xs) S1 else .bad
    | _ => .bad
  | .par is es, ρ, S => (evL X C es ρ S).thn ρ fun ds S1 =>
    if is.all (free1 ρ) && (ds.length == is.length) then .nx (putAll ρ is ds) S1 else .bad
  | .setI o i e, ρ, S => (evE X C e ρ S).thn ρ fun r S1 => match r.frz with
    | some d => (evE X C o ρ S1).thn ρ fun ro S2 => (evE X C i ρ S2).thn ρ fun ri S3 => match ro, ri with
      | .val (.obj n), .val k => (match S3[n]? with
        | some ob => (match setO ob k d with
          | some ob' => .nx ρ (S3.set n ob')
          | none => .bad)
        | none => .bad)
      | _, _ => .bad
    | none => .bad
  | .setIO s i e, ρ, S => (evE X C e ρ S).thn ρ fun r S1 => match r.frz with
    | some d => (match ρ[s]? with
      | some (.own ob) => (evE X C i ρ S1).thn ρ fun ri S3 => (match ri with
        | .val k => (match setO ob k d with
          | some ob' => .nx (ρ.set s (.own ob')) S3
          | none => .bad)
        | _ => .bad)
      | _ => .bad)
    | none => .bad
  | .setF c j o e, ρ, S => (evE X C e ρ S).thn ρ fun r S1 => match r.frz with
    | some d => (evE X C o ρ S1).thn ρ fun ro S2 => match ro with
      | .val (.obj n) => (match S2[n]? with
        | some (.ins c' ds) => if c' = c ∧ j < ds.length then .nx ρ (S2.set n (.ins c (ds.set j d))) else .bad
        | _ => .bad)
      | _ => .bad
    | none => .bad
  | .setFO c' j e, ρ, S => (evE X C e ρ S).thn ρ fun r S1 => match r.frz, ρ[0]? with
    | some d, some (Sl.own (.ins c ds)) => if ds.length = j ∧ X.cls c = true ∧ c = c' then .nx (ρ.set 0 (.own (.ins c (ds ++ [d])))) S1 else .bad
    | _, _ => .bad
  | .app o e, ρ, S => (evE X C o ρ S).thn ρ fun ro S1 => match ro with
    | .val (.obj n) => (match S1[n]? with
      | some (.lst _) => (evE X C e ρ S1).thn ρ fun r S2 => (match r.frz with
        | some d => (match S2[n]? with
          | some (.lst xs) => if xs.length < lim then .nx ρ (S2.set n (.lst (xs ++ [d]))) else .bad
          | _ => .bad)
        | none => .bad)
      | _ => .bad)
    | _ => .bad
  | .appO s e, ρ, S => match ρ[s]? with
    | some (.own (.lst xs)) => (evE X C e ρ S).thn ρ fun r S1 => (match r.frz with
      | some d => if xs.length < lim then .nx (ρ.set s (.own (.lst (xs ++ [d])))) S1 else .bad
      | none => .bad)
    | _ => .bad
  | .ite c a b, ρ, S => (evE X C c ρ S).thn ρ fun r S1 => match r with
    | .val (.bl true) => exT a ρ S1
    | .val (.bl false) => exT b ρ S1
    | _ => .bad
  | .whil n c b, ρ, S => whileLoop (evE X C c) (exT b) n ρ S
  | .for_ tg it b, ρ, S => (evI X C it ρ S).thn ρ fun xs S1 => if it.stays && tg.all (free1 ρ) then forLoop (fun x ρ S => match put ρ tg x with
      | some ρ1 => exT b ρ1 S
      | none => .bad) xs ρ S1 else .bad
  | .ret e, ρ, S => (evE X C e ρ S).thn ρ fun r S1 => match r with
    | .tmp _ => .bad
    | r => .rt r S1
  | .retO i, ρ, S => match ρ[i]? with
    | some (.own o) => .rt (.own o) S
    | _ => .bad
  | .retN, _, S => .rt (.val .non) S
  | .brk, ρ, S => .bk ρ S
  | .parM is es, ρ, S => (evM X C es (is.map (·.2)) ρ S).thn ρ fun ss S1 =>
    if (is.map (·.1)).all (fun i => free1 ρ i && decide (i < ρ.length)) && decide (is.map (·.1)).Nodup && (ss.length == is.length) then .nx (putM ρ (is.map (·.1)) ss) S1 else .bad
  | .aug i op e, ρ, S => (match ρ[i]? with
    | some (.val (.int x)) => (evE X C e ρ S).thn ρ fun r S1 => (match r with
      | .val (.int y) => (match op with
        | .add => .nx (ρ.set i (.val (.int (x + y)))) S1
        | _ => .bad)
      | _ => .bad)
    | _ => .bad)
  | .ext o e, ρ, S => (evE X C o ρ S).thn ρ fun ro S1 => match ro with
    | .val (.obj n) => (match S1[n]? with
      | some (.lst _) => (evE X C e ρ S1).thn ρ fun r S2 => (match r with
        | .own (.lst ys) => (match S2[n]? with
          | some (.lst xs) => if xs.length + ys.length < lim then .nx ρ (S2.set n (.lst (xs ++ ys))) else .bad
          | _ => .bad)
        | _ => .bad)
      | _ => .bad)
    | _ => .bad
  | .extO s e, ρ, S => match ρ[s]? with
    | some (.own (.lst xs)) => (evE X C e ρ S).thn ρ fun r S1 => (match r with
      | .own (.lst ys) => if xs.length + ys.length < lim then .nx (ρ.set s (.own (.lst (xs ++ ys)))) S1 else .bad
      | _ => .bad)
    | _ => .bad
  | .popT o, ρ, S => (evE X C o ρ S).thn ρ fun ro S1 => match ro with
    | .val (.obj n) => (match S1[n]? with
      | some (.lst xs) => if xs.length ≠ 0 then .nx ρ (S1.set n (.lst xs.dropLast)) else .bad
      | _ => .bad)
    | _ => .bad
  | .rais c es, ρ, S => (evL X C es ρ S).thn ρ fun ds S1 => if X.rx c ds then .exc c ds ρ S1 else .bad
  | .tryx b h, ρ, S => match exT b ρ S with
    | .exc c ds ρ1 S1 => exH h c ds ρ1 S1
    | o => o
  | .dead, _, _ => .bad
def exH : Hs → Nat → List D → REnv → Store → OutS
  | .nil, c, ds, ρ, S => .exc c ds ρ S
  | .cons c' i s rest, c, ds, ρ, S => match X.sub c c' with
    | some true => (match i with
      | none => backE (exT s ρ S)
      | some i => if free1 ρ i && decide (i < ρ.length) then goneE i (exT s (ρ.set i (.exc c ds)) S) else .bad)
    | some false => exH rest c ds ρ S
    | none => .bad
end

/-- a def called -/
def runFd (fd : Fd) (ds : List D) (S : Store) : Out Rv :=
  if ds.length = fd.nargs then
    match fd.ctor with
    | none => (match exT X C fd.body (ds.map Sl.val ++ List.replicate (fd.nslots - fd.nargs) .un) S with
      | .nx _ S1 => .ok (.val .non) S1
      | .rt r S1 => .ok r S1
      | .exc c es _ S1 => .exc c es S1
      | _ => .bad)
    | some c => (match exT X C fd.body (.own (.ins c []) :: ds.map Sl.val ++ List.replicate (fd.nslots - fd.nargs - 1) .un) S with
      | .nx (.own (.ins c' fs) :: _) S1 => .ok (.own (.ins c' fs)) S1
      | .exc c es _ S1 => .exc c es S1
      | _ => .bad)
  else .bad
end
def callN (X : Tab) : Nat → Calls
  | 0, _, _, _ => .bad
  | k + 1, f, ds, S => match X.fd f with
    | some fd => runFd X (callN X k) fd ds S
    | none => .bad
end R

/-! What the interpreter's values, store and slots say of the heap. -/
namespace R
open PySem L2

structure Pm where
  P : Program
  w : World
  K : PySem.W.Frag
  cl : Nat → Addr
  fn : Nat → List Str
structure Cfg where
  G : Hp
  A : List Addr

abbrev DEnt := NestedKey × Addr × V
/-- the entries, and the very object -/
abbrev DE := List DEnt × Obj
def dictAt (m : Pm) (p : Addr) (es : DE) : Heap → Prop := fun h => es.1.length ≤ sizeLine ∧ (p == sysModules) = false ∧ ∃ xs : List (NestedKey × Addr × Value),
  Paired (fun (e : DEnt) (x : NestedKey × Addr × Value) => e.1 = x.1 ∧ e.2.1 = x.2.1 ∧ RelV e.2.2 x.2.2) es.1 xs ∧
  ∃ eds ep, h.get? p = some es.2 ∧ es.2.ExactDict ∧ es.2.data = .dict eds ep ∧ eds.toList = xs.map (entryOfKey (nestedKind m.P m.w)) ∧ (xs.map (·.1)).Nodup
def dHO (m : Pm) (p : Addr) (es : DE) : HO := .ext (dictAt m p es)

mutual
inductive RD (m : Pm) (c : Cfg) : V → D → Prop
  | non : RD m c .non .non
  | bl (b : Bool) : RD m c (.bl b) (.bl b)
  | int (i : Int) : RD m c (.int i) (.int i)
  | str (x : Str) : RD m c (.str x) (.str x)
  | tup {p : Addr} {vs : List V} {ds : List D} : SqT m.K c.G p vs → RDs m c vs ds → RD m c (.ref p) (.tup ds)
  | lst {p : Addr} {vs : List V} {ds : List D} : c.G p = some (.lst vs) → RDs m c vs ds → RD m c (.ref p) (.lst ds)
  | scr {p : Addr} {vs : List V} {ds : List D} : SqL m.K c.G p vs → RDs m c vs ds → RD m c (.ref p) (.scr ds)
  | dct {p : Addr} {es : DE} {kvs : List (D × D)} : c.G p = some (dHO m p es) → RKs m c es.1 kvs → RD m c (.ref p) (.dct kvs)
  | ins {p dx : Addr} {k : Nat} {vs : List V} {ds : List D} : c.G p = some (.ins (m.cl k) dx ((m.fn k).zip vs)) → vs.length ≤ (m.fn k).length → RDs m c vs ds → RD m c (.ref p) (.ins k ds)
  | obj {n : Nat} {a : Addr} : c.A[n]? = some a → RD m c (.ref a) (.obj n)
inductive RDs (m : Pm) (c : Cfg) : List V → List D → Prop
  | nil : RDs m c [] []
  | cons {v : V} {vs : List V} {d : D} {ds : List D} : RD m c v d → RDs m c vs ds → RDs m c (v :: vs) (d :: ds)
inductive RKs (m : Pm) (c : Cfg) : List DEnt → List (D × D) → Prop
  | nil : RKs m c [] []
  | cons {e : DEnt} {es : List DEnt} {k v : D} {kvs : List (D × D)} : nk k = some e.1 ∧ e.1.depth ≤ 8 → RD m c (.ref e.2.1) k → RD m c e.2.2 v → RKs m c es kvs → RKs m c (e :: es) ((k, v) :: kvs)
end

inductive RO (m : Pm) (c : Cfg) (H : Hp) (p : Addr) : O → Prop
  | lst {vs : List V} {ds : List D} : H p = some (.lst vs) → RDs m c vs ds → RO m c H p (.lst ds)
  | dct {es : DE} {kvs : List (D × D)} : H p = some (dHO m p es) → RKs m c es.1 kvs → RO m c H p (.dct kvs)
  | ins {dx : Addr} {k : Nat} {vs : List V} {ds : List D} : H p = some (.ins (m.cl k) dx ((m.fn k).zip vs)) → vs.length ≤ (m.fn k).length → RDs m c vs ds → RO m c H p (.ins k ds)

structure Wd (m : Pm) (c : Cfg) (H : Hp) (S : Store) : Prop where
  le : ∀ p o, c.G p = some o → H p = some o
  len : c.A.length = S.length
  obj : ∀ (n : Nat) (a : Addr) (o : O), c.A[n]? = some a → S[n]? = some o → RO m c H a o
  off : ∀ a ∈ c.A, c.G a = none
  nd : c.A.Nodup

structure Step (c₀ : Cfg) (H₀ : Hp) (c : Cfg) (H : Hp) : Prop where
  G : ∀ p o, c₀.G p = some o → c.G p = some o
  A : ∃ more, c.A = c₀.A ++ more ∧ ∀ a ∈ more, H₀ a = none
  frame : ∀ p o, H₀ p = some o → p ∉ c₀.A → H p = some o
  fresh : ∀ p o, c.G p = some o → c₀.G p = some o ∨ H₀ p = none
  dom : ∀ p, H p = none → H₀ p = none

section
variable {m : Pm} {c c₀ c₁ c₂ : Cfg} {H H₀ H₁ H₂ : Hp} {S : Store} {p : Addr} {o : HO} {v : V} {d : D}
theorem Step.refl (c : Cfg) (H : Hp) : Step c H c H := ⟨fun _ _ h => h, ⟨[], by simp, fun _ h => by cases h⟩, fun _ _ h _ => h, fun _ _ h => .inl h, fun _ h => h⟩
theorem Step.trans (a : Step c₀ H₀ c₁ H₁) (b : Step c₁ H₁ c₂ H₂) : Step c₀ H₀ c₂ H₂ := by
  obtain ⟨m1, e1, f1⟩ := a.A
  obtain ⟨m2, e2, f2⟩ := b.A
  refine ⟨fun p o h => b.G p o (a.G p o h), ⟨m1 ++ m2, by rw [e2, e1, List.append_assoc], fun x hx => ?_⟩, fun p o h n => b.frame p o (a.frame p o h n) fun hm => ?_, fun p o h => ?_, fun p h => a.dom p (b.dom p h)⟩
  · rcases List.mem_append.mp hx with hx | hx
    · exact f1 x hx
    · exact a.dom x (f2 x hx)
  · rw [e1] at hm
    rcases List.mem_append.mp hm with hm | hm
    · exact n hm
    · rw [f1 p hm] at h; cases h
  · rcases b.fresh p o h with h | h
    · exact a.fresh p o h
    · exact .inr (a.dom p h)

/-- the values' part of a step -/
structure Le (c₀ c : Cfg) : Prop where
  G : ∀ p o, c₀.G p = some o → c.G p = some o
  A : ∃ more, c.A = c₀.A ++ more
theorem Step.le (a : Step c₀ H₀ c H) : Le c₀ c := ⟨a.G, let ⟨mo, e, _⟩ := a.A; ⟨mo, e⟩⟩
theorem Le.refl (c : Cfg) : Le c c := ⟨fun _ _ h => h, [], by simp⟩
theorem Le.trans {a b c : Cfg} (x : Le a b) (y : Le b c) : Le a c := by
  obtain ⟨m1, e1⟩ := x.A
  obtain ⟨m2, e2⟩ := y.A
  exact ⟨fun p o h => y.G p o (x.G p o h), m1 ++ m2, by rw [e2, e1, List.append_assoc]⟩
theorem rd_mono {G G' : Hp} {u : HO} (k : ∀ p o, G p = some o → G' p = some o) (h : Rd G p u) : Rd G' p u := by
  rcases h with h | ⟨o, h⟩
  · exact .inl (k _ _ h)
  · exact .inr ⟨o, k _ _ h⟩
theorem sqL_mono {K : PySem.W.Frag} {G G' : Hp} {vs : List V} (k : ∀ p o, G p = some o → G' p = some o) (h : SqL K G p vs) : SqL K G' p vs := h.imp (rd_mono k) id
theorem sqT_mono {K : PySem.W.Frag} {G G' : Hp} {vs : List V} (k : ∀ p o, G p = some o → G' p = some o) (h : SqT K G p vs) : SqT K G' p vs := h.imp (rd_mono k) id
mutual
theorem RD.mono (l : Le c₀ c) : ∀ (d : D) (v : V), RD m c₀ v d → RD m c v d
  | .non, _, h => by cases h; exact .non
  | .bl b, _, h => by cases h; exact .bl b
  | .int i, _, h => by cases h; exact .int i
  | .str x, _, h => by cases h; exact .str x
  | .tup ds, _, h => by
    cases h with
    | tup h1 h2 => exact .tup (sqT_mono l.G h1) (RDs.mono l ds _ h2)
  | .lst ds, _, h => by
    cases h with
    | lst h1 h2 => exact .lst (l.G _ _ h1) (RDs.mono l ds _ h2)
  | .scr ds, _, h => by
    cases h with
    | scr h1 h2 => exact .scr (sqL_mono l.G h1) (RDs.mono l ds _ h2)
  | .dct kvs, _, h => by
    cases h with
    | dct h1 h2 => exact .dct (l.G _ _ h1) (RKs.mono l kvs _ h2)
  | .ins k ds, _, h => by
    cases h with
    | ins h1 h2 h3 => exact .ins (l.G _ _ h1) h2 (RDs.mono l ds _ h3)
  | .obj n, _, h => by
    cases h with
    | obj h1 =>
      obtain ⟨mo, e⟩ := l.A
      exact .obj (by rw [e, List.getElem?_append_left (List.getElem?_eq_some_iff.mp h1).1]; exact h1)
theorem RDs.mono (l : Le c₀ c) : ∀ (ds : List D) (vs : List V), RDs m c₀ vs ds → RDs m c vs ds
  | [], _, h => by cases h; exact .nil
  | d :: ds, _, h => by
    cases h with
    | cons h1 h2 => exact .cons (RD.mono l d _ h1) (RDs.mono l ds _ h2)
theorem RKs.mono (l : Le c₀ c) : ∀ (kvs : List (D × D)) (es : List DEnt), RKs m c₀ es kvs → RKs m c es kvs
  | [], _, h => by cases h; exact .nil
  | (k, v) :: kvs, _, h => by
    cases h with
    | cons h0 h1 h2 h3 => exact .cons h0 (RD.mono l k _ h1) (RD.mono l v _ h2) (RKs.mono l kvs _ h3)
end
theorem RD.le (l : Le c₀ c) (h : RD m c₀ v d) : RD m c v d := RD.mono l d v h
theorem RDs.le {vs : List V} {ds : List D} (l : Le c₀ c) (h : RDs m c₀ vs ds) : RDs m c vs ds := RDs.mono l ds vs h
theorem RKs.le {es : List DEnt} {kvs : List (D × D)} (l : Le c₀ c) (h : RKs m c₀ es kvs) : RKs m c es kvs := RKs.mono l kvs es h
theorem RDs.length {vs : List V} : ∀ {ds : List D}, RDs m c vs ds → vs.length = ds.length := by
  induction vs with
  | nil => intro ds h; cases h; rfl
  | cons v vs ih =>
    intro ds h
    cases h with
    | cons h1 h2 => rw [List.length_cons, List.length_cons, ih h2]
theorem RDs.get : ∀ {vs : List V} {ds : List D} {i : Nat}, RDs m c vs ds → ds[i]? = some d → ∃ v, vs[i]? = some v ∧ RD m c v d
  | _, _, _, .nil, h => by simp at h
  | _, _, 0, .cons h1 _, h => by simp at h; subst h; exact ⟨_, rfl, h1⟩
  | _, _, i + 1, .cons _ h2, h => by
    obtain ⟨v, e, r⟩ := RDs.get (i := i) h2 (by simpa using h)
    exact ⟨v, by simpa using e, r⟩
theorem RDs.append : ∀ {vs ws : List V} {ds es : List D}, RDs m c vs ds → RDs m c ws es → RDs m c (vs ++ ws) (ds ++ es)
  | _, _, _, _, .nil, h => h
  | _, _, _, _, .cons h1 h2, h => .cons h1 (h2.append h)
theorem RDs.dropLast : ∀ {vs : List V} {ds : List D}, RDs m c vs ds → RDs m c vs.dropLast ds.dropLast
  | _, _, .nil => .nil
  | _, _, .cons _ .nil => .nil
  | _, _, .cons h1 (.cons h2 h3) => .cons h1 (RDs.dropLast (.cons h2 h3))
theorem RDs.set : ∀ {vs : List V} {ds : List D} (i : Nat), RDs m c vs ds → RD m c v d → RDs m c (vs.set i v) (ds.set i d)
  | _, _, _, .nil, _ => .nil
  | _, _, 0, .cons _ h2, h => .cons h h2
  | _, _, i + 1, .cons h1 h2, h => .cons h1 (RDs.set i h2 h)
theorem RO.mono {ob : O} (s : Step c₀ H₀ c H) (n : p ∉ c₀.A) (h : RO m c₀ H₀ p ob) : RO m c H p ob := by
  cases h with
  | lst h1 h2 => exact .lst (s.frame _ _ h1 n) (h2.le s.le)
  | dct h1 h2 => exact .dct (s.frame _ _ h1 n) (h2.le s.le)
  | ins h1 h2 h3 => exact .ins (s.frame _ _ h1 n) h2 (h3.le s.le)
theorem RO.some {ob : O} (h : RO m c H p ob) : ∃ u, H p = some u := by
  cases h with
  | lst h1 _ => exact ⟨_, h1⟩
  | dct h1 _ => exact ⟨_, h1⟩
  | ins h1 _ _ => exact ⟨_, h1⟩
theorem Wd.there (w : Wd m c H S) {a : Addr} (h : a ∈ c.A) : ∃ u, H a = some u := by
  obtain ⟨n, hn, e⟩ := List.getElem_of_mem h
  have h2 : n < S.length := by rw [← w.len]; exact hn
  exact (w.obj n a S[n] (by rw [← e]; exact List.getElem?_eq_getElem hn) (List.getElem?_eq_getElem h2)).some
theorem Wd.new (w : Wd m c H S) (h : H p = none) : p ∉ c.A ∧ c.G p = none := by
  refine ⟨fun hm => ?_, ?_⟩
  · obtain ⟨u, e⟩ := w.there hm
    rw [h] at e; cases e
  · cases e : c.G p with
    | none => rfl
    | some u => rw [w.le _ _ e] at h; cases h
theorem RO.upd {ob : O} {q : Addr} (h : RO m c H p ob) (n : p ≠ q) : RO m c (upd H q o) p ob := by
  cases h with
  | lst h1 h2 => exact .lst (by rw [upd_ne n]; exact h1) h2
  | dct h1 h2 => exact .dct (by rw [upd_ne n]; exact h1) h2
  | ins h1 h2 h3 => exact .ins (by rw [upd_ne n]; exact h1) h2 h3
theorem RO.cfg {ob : O} (l : Le c₀ c) (h : RO m c₀ H p ob) : RO m c H p ob := by
  cases h with
  | lst h1 h2 => exact .lst h1 (h2.le l)
  | dct h1 h2 => exact .dct h1 (h2.le l)
  | ins h1 h2 h3 => exact .ins h1 h2 (h3.le l)
/-- a new object, told of by nobody -/
theorem step_new (w : Wd m c H S) (h : H p = none) : Step c H c (upd H p o) ∧ Wd m c (upd H p o) S := by
  obtain ⟨nA, nG⟩ := w.new h
  refine ⟨⟨fun _ _ h => h, ⟨[], by simp, fun _ h => by cases h⟩, fun q u hq _ => ?_, fun _ _ h => .inl h, fun q hq => ?_⟩, ⟨fun q u hq => ?_, w.len, fun n a ob h1 h2 => (w.obj n a ob h1 h2).upd (fun (e : a = p) => nA (by rw [← e]; exact List.mem_of_getElem? h1)), w.off, w.nd⟩⟩
  · rw [upd_ne (ne_of_none hq h)]; exact hq
  · by_cases e : q = p
    · rw [e]; exact h
    · rw [upd_ne e] at hq; exact hq
  · rw [upd_ne (ne_of_none (w.le _ _ hq) h)]; exact w.le _ _ hq
def Cfg.put (c : Cfg) (p : Addr) (o : HO) : Cfg := ⟨upd c.G p o, c.A⟩
theorem le_put (n : c.G p = none) : Le c (c.put p o) := ⟨fun q u h => by
  show upd c.G p o q = some u
  rw [upd_ne (ne_of_none h n)]; exact h, [], by simp [Cfg.put]⟩
/-- an object that stands is known from now on -/
theorem wd_put (w : Wd m c H S) (hp : H p = some o) (nG : c.G p = none) (nA : p ∉ c.A) : Wd m (c.put p o) H S := by
  refine ⟨fun q u hq => ?_, w.len, fun n a ob h1 h2 => (w.obj n a ob h1 h2).cfg (le_put nG), fun a ha => ?_, w.nd⟩
  · by_cases e : q = p
    · subst e
      rw [show (c.put q o).G q = some o from upd_same] at hq
      cases hq; exact hp
    · exact w.le _ _ (by rw [← hq]; exact (upd_ne e).symm)
  · show upd c.G p o a = none
    rw [upd_ne (fun e : a = p => nA (by rw [← e]; exact ha))]
    exact w.off a ha
theorem step_put (s : Step c₀ H₀ c H) (nG : c.G p = none) (f : H₀ p = none) : Step c₀ H₀ (c.put p o) H := by
  refine ⟨fun q u h => (le_put nG).G _ _ (s.G _ _ h), s.A, s.frame, fun q u hq => ?_, s.dom⟩
  by_cases e : q = p
  · subst e; exact .inr f
  · exact s.fresh q u (by rw [← hq]; exact (upd_ne e).symm)
/-- a new object, known from the start -/
theorem step_newG (w : Wd m c H S) (h : H p = none) : Step c H (c.put p o) (upd H p o) ∧ Wd m (c.put p o) (upd H p o) S := by
  obtain ⟨s, w2⟩ := step_new (o := o) w h
  obtain ⟨nA, nG⟩ := w.new h
  exact ⟨step_put s nG h, wd_put w2 upd_same nG nA⟩
end

/-- what an expression gave; new: not there at H₀ -/
inductive RRv (m : Pm) (c : Cfg) (H H₀ : Hp) : V → Rv → Prop
  | val {v : V} {d : D} : RD m c v d → RRv m c H H₀ v (.val d)
  | own {p : Addr} {o : O} : RO m c H p o → c.G p = none → p ∉ c.A → H₀ p = none → RRv m c H H₀ (.ref p) (.own o)
  | tmp {p : Addr} {o : O} : RO m c H p o → c.G p = none → p ∉ c.A → RRv m c H H₀ (.ref p) (.tmp o)
/-- what is seen at the top -/
inductive RT (m : Pm) (c : Cfg) (H : Hp) : V → D → Prop
  | val {v : V} {d : D} : RD m c v d → RT m c H v d
  | top {p : Addr} {o : O} : RO m c H p o → RT m c H (.ref p) o.d
section
variable {m : Pm} {c c₀ c₁ c₂ : Cfg} {H H₀ H₁ H₂ : Hp} {S : Store} {p : Addr} {o : HO} {v : V} {d : D} {r : Rv}
theorem RRv.mono (s : Step c₁ H₁ c H) (h : RRv m c₁ H₁ H₀ v r) : RRv m c H H₀ v r := by
  have off : ∀ {q : Addr} {ob : O}, RO m c₁ H₁ q ob → c₁.G q = none → q ∉ c₁.A → c.G q = none ∧ q ∉ c.A := fun {q ob} h1 h2 h3 => by
    obtain ⟨u, hu⟩ := h1.some
    refine ⟨?_, fun hm => ?_⟩
    · cases e : c.G q with
      | none => rfl
      | some u2 =>
        rcases s.fresh _ _ e with h | h
        · rw [h2] at h; cases h
        · rw [hu] at h; cases h
    · obtain ⟨mo, e, f⟩ := s.A
      rw [e] at hm
      rcases List.mem_append.mp hm with hm | hm
      · exact h3 hm
      · rw [f q hm] at hu; cases hu
  cases h with
  | val h => exact .val (h.le s.le)
  | own h1 h2 h3 h4 => exact .own (h1.mono s h3) (off h1 h2 h3).1 (off h1 h2 h3).2 h4
  | tmp h1 h2 h3 => exact .tmp (h1.mono s h3) (off h1 h2 h3).1 (off h1 h2 h3).2
theorem RRv.back (dom : ∀ p, H₁ p = none → H₀ p = none) (h : RRv m c H H₁ v r) : RRv m c H H₀ v r := by
  cases h with
  | val h => exact .val h
  | own h1 h2 h3 h4 => exact .own h1 h2 h3 (dom _ h4)
  | tmp h1 h2 h3 => exact .tmp h1 h2 h3
theorem RRv.view (w : Wd m c H S) (h : RRv m c H H₀ v r) (e : r.view S = some d) : RT m c H v d := by
  cases h with
  | own h1 h2 h3 h4 => cases e; exact .top h1
  | tmp h1 h2 h3 => cases e; exact .top h1
  | val h =>
    rename_i d0
    cases d0 with
    | obj n =>
      have e : (S[n]?).map O.d = some d := e
      cases h with
      | obj h =>
        cases q : S[n]? with
        | none => rw [q] at e; cases e
        | some ob =>
          rw [q] at e; cases e
          exact .top (w.obj _ _ _ h q)
    | _ => cases e; exact .val h
/-- made a value -/
theorem RRv.frz (w : Wd m c H S) (s : Step c₀ H₀ c H) (h : RRv m c H H₀ v r) (e : r.frz = some d) : ∃ c', Step c₀ H₀ c' H ∧ Wd m c' H S ∧ RD m c' v d ∧ Le c c' := by
  cases h with
  | tmp h1 h2 h3 => cases e
  | val h => cases e; exact ⟨c, s, w, h, fun _ _ h => h, [], by simp⟩
  | own h1 h2 h3 h4 =>
    cases e
    cases h1 with
    | lst a b => exact ⟨c.put _ _, step_put s h2 h4, wd_put w a h2 h3, .lst upd_same (b.le (le_put h2)), le_put h2⟩
    | dct a b => exact ⟨c.put _ _, step_put s h2 h4, wd_put w a h2 h3, .dct upd_same (b.le (le_put h2)), le_put h2⟩
    | ins a b d => exact ⟨c.put _ _, step_put s h2 h4, wd_put w a h2 h3, .ins upd_same b (d.le (le_put h2)), le_put h2⟩
theorem RT.lst (w : Wd m c H S) {xs : List D} (h : RT m c H v (.lst xs)) : ∃ p vs, v = .ref p ∧ H p = some (.lst vs) ∧ RDs m c vs xs := by
  generalize e : D.lst xs = d at h
  cases h with
  | val h =>
    subst e
    cases h with
    | lst h1 h2 => exact ⟨_, _, rfl, w.le _ _ h1, h2⟩
  | top h =>
    cases h with
    | lst h1 h2 => cases e; exact ⟨_, _, rfl, h1, h2⟩
    | dct h1 h2 => cases e
    | ins h1 h2 h3 => cases e
theorem RT.tup (w : Wd m c H S) {xs : List D} (h : RT m c H v (.tup xs)) : ∃ p vs, v = .ref p ∧ SqT m.K H p vs ∧ SqT m.K c.G p vs ∧ RDs m c vs xs := by
  generalize e : D.tup xs = d at h
  cases h with
  | val h =>
    subst e
    cases h with
    | tup h1 h2 => exact ⟨_, _, rfl, sqT_mono w.le h1, h1, h2⟩
  | top h => cases h <;> cases e
theorem RT.ins (w : Wd m c H S) {k : Nat} {ds : List D} (h : RT m c H v (.ins k ds)) : ∃ p dx vs, v = .ref p ∧ H p = some (.ins (m.cl k) dx ((m.fn k).zip vs)) ∧ vs.length ≤ (m.fn k).length ∧ RDs m c vs ds := by
  generalize e : D.ins k ds = d at h
  cases h with
  | val h =>
    subst e
    cases h with
    | ins h1 h2 h3 => exact ⟨_, _, _, rfl, w.le _ _ h1, h2, h3⟩
  | top h =>
    cases h with
    | lst h1 h2 => cases e
    | dct h1 h2 => cases e
    | ins h1 h2 h3 => cases e; exact ⟨_, _, _, rfl, h1, h2, h3⟩
theorem RT.int {i : Int} (h : RT m c H v (.int i)) : v = .int i := by
  generalize e : D.int i = d at h
  cases h with
  | val h => subst e; cases h; rfl
  | top h => cases h <;> cases e
theorem RT.non (h : RT m c H v .non) : v = .non := by
  generalize e : D.non = d at h
  cases h with
  | val h => subst e; cases h; rfl
  | top h => cases h <;> cases e
theorem RT.bl {b : Bool} (h : RT m c H v (.bl b)) : v = .bl b := by
  generalize e : D.bl b = d at h
  cases h with
  | val h => subst e; cases h; rfl
  | top h => cases h <;> cases e
theorem RT.str {x : Str} (h : RT m c H v (.str x)) : v = .str x := by
  generalize e : D.str x = d at h
  cases h with
  | val h => subst e; cases h; rfl
  | top h => cases h <;> cases e
mutual
theorem RD.dp (w : Wd m c H S) : ∀ (d : D) (v : V) (y : PyData), RD m c v d → py d = some y → Dp m.K H v y
  | .non, _, _, h, e => by cases h; cases e; exact .non
  | .bl b, _, _, h, e => by cases h; cases e; exact .bl b
  | .int i, _, _, h, e => by cases h; cases e; exact .int i
  | .str x, _, _, h, e => by cases h; cases e; exact .str x
  | .tup ds, _, y, h, e => by
    cases h with
    | tup h1 h2 =>
      obtain ⟨ys, e1, e2⟩ := Option.map_eq_some_iff.mp (show (pyAll ds).map PyData.tuple = some y from by rw [← e, py])
      subst e2
      exact .tup (sqT_mono w.le h1) (RDs.dp w ds _ ys h2 e1)
  | .lst ds, _, y, h, e => by
    cases h with
    | lst h1 h2 =>
      obtain ⟨ys, e1, e2⟩ := Option.map_eq_some_iff.mp (show (pyAll ds).map PyData.list = some y from by rw [← e, py])
      subst e2
      exact .lst (SqL.of (w.le _ _ h1)) (RDs.dp w ds _ ys h2 e1)
  | .dct _, _, _, _, e => by simp [py] at e
  | .ins _ _, _, _, _, e => by simp [py] at e
  | .obj _, _, _, _, e => by simp [py] at e
  | .scr _, _, _, _, e => by simp [py] at e
theorem RDs.dp (w : Wd m c H S) : ∀ (ds : List D) (vs : List V) (ys : List PyData), RDs m c vs ds → pyAll ds = some ys → DpAll m.K H vs ys
  | [], _, _, h, e => by cases h; cases e; exact .nil
  | d :: ds, _, ys, h, e => by
    cases h with
    | cons h1 h2 =>
      rw [pyAll] at e
      cases e1 : py d with
      | none => rw [e1] at e; simp at e
      | some a =>
        cases e2 : pyAll ds with
        | none => rw [e1, e2] at e; simp at e
        | some b =>
          rw [e1, e2] at e
          cases e
          exact .cons (RD.dp w d _ a h1 e1) (RDs.dp w ds _ b h2 e2)
end
theorem RT.dp (w : Wd m c H S) {y : PyData} (h : RT m c H v d) (e : py d = some y) : Dp m.K H v y := by
  cases h with
  | val h => exact RD.dp w _ _ _ h e
  | top h =>
    cases h with
    | lst h1 h2 =>
      rename_i vs ds
      obtain ⟨ys, e1, e2⟩ := Option.map_eq_some_iff.mp (show (pyAll ds).map PyData.list = some y from by rw [← e]; rfl)
      subst e2
      exact .lst (SqL.of h1) (RDs.dp w ds _ ys h2 e1)
    | dct h1 h2 => simp [O.d, py] at e
    | ins h1 h2 h3 => simp [O.d, py] at e
end
end R

set_option maxHeartbeats 1000000
/-! What an expression's outcome promises; slots. -/
namespace R
open PySem L2

structure Tb where
  cl : Nat → Addr
  fn : Nat → List Str
abbrev mX (X : Cx) (tb : Tb) : Pm := ⟨X.prog, X.w, X.K, tb.cl, tb.fn⟩

abbrev Pin := Addr → Value → Option Addr → Prop
def noPin : Pin := fun _ _ _ => False
/-- an exception of the class k with the fields ds -/
def ExR (m : Pm) (c : Cfg) (cls : Value) (d : Option Addr) (k : Nat) (ds : List D) : Prop :=
  cls = .ref (m.cl k) ∧ ((m.fn k = [] ∧ ds = [] ∧ d = none) ∨ ∃ dx vs, m.fn k ≠ [] ∧ d = some dx ∧ c.G dx = some (.xd ((m.fn k).zip vs)) ∧ vs.length = (m.fn k).length ∧ RDs m c vs ds)
theorem ExR.mono {m : Pm} {c c' : Cfg} {cls : Value} {d : Option Addr} {k : Nat} {ds : List D} (l : Le c c') (h : ExR m c cls d k ds) : ExR m c' cls d k ds := by
  obtain ⟨h1, h2⟩ := h
  refine ⟨h1, h2.imp id ?_⟩
  rintro ⟨dx, vs, z, e, g, n, r⟩
  exact ⟨dx, vs, z, e, l.G _ _ g, n, r.le l⟩
inductive SlR (m : Pm) (c : Cfg) (H : Hp) (pin : Pin) (me : Addr) (He : Hp) : Option (Option V) → Sl → Prop
  | un {x : Option (Option V)} : SlR m c H pin me He x .un
  | val {v : V} {d : D} : RD m c v d → SlR m c H pin me He (some (some v)) (.val d)
  | own {p : Addr} {o : O} : RO m c H p o → c.G p = none → p ∉ c.A → He p = none → (∀ k ds, o = .ins k ds → p = me) → SlR m c H pin me He (some (some (.ref p))) (.own o)
  | exc {a : Addr} {cls : Value} {d : Option Addr} {k : Nat} {ds : List D} : pin a cls d → ExR m c cls d k ds → SlR m c H pin me He (some (some (.ref a))) (.exc k ds)
structure EnvR (m : Pm) (c : Cfg) (H : Hp) (pin : Pin) (me : Addr) (He : Hp) (ρ : REnv) (σ : St) : Prop where
  len : ρ.length = σ.length
  at_ : ∀ (i : Nat) (s : Sl), ρ[i]? = some s → SlR m c H pin me He σ[i]? s
  nd : ∀ (i j : Nat) (o o' : O) (p : Addr), i ≠ j → ρ[i]? = some (.own o) → ρ[j]? = some (.own o') → σ[i]? = some (some (.ref p)) → σ[j]? = some (some (.ref p)) → False
section
variable {m : Pm} {c c₀ c₁ c₂ : Cfg} {H H₀ H₁ H₂ He : Hp} {S S₁ : Store} {p me : Addr} {pin : Pin} {ρ : REnv} {σ : St} {W : WX} {Q : VK}
/-- who stands off stays off -/
theorem Step.off (s : Step c₁ H₁ c H) {u : HO} (h1 : H₁ p = some u) (h2 : c₁.G p = none) (h3 : p ∉ c₁.A) : c.G p = none ∧ p ∉ c.A := by
  refine ⟨?_, fun hm => ?_⟩
  · cases e : c.G p with
    | none => rfl
    | some u2 =>
      rcases s.fresh _ _ e with h | h
      · rw [h2] at h; cases h
      · rw [h1] at h; cases h
  · obtain ⟨mo, e, f⟩ := s.A
    rw [e] at hm
    rcases List.mem_append.mp hm with hm | hm
    · exact h3 hm
    · rw [f _ hm] at h1; cases h1
theorem SlR.step (s : Step c₁ H₁ c H) {x : Option (Option V)} {sl : Sl} (h : SlR m c₁ H₁ pin me He x sl) : SlR m c H pin me He x sl := by
  cases h with
  | un => exact .un
  | val h => exact .val (h.le s.le)
  | own h1 h2 h3 h4 h5 =>
    obtain ⟨u, hu⟩ := h1.some
    obtain ⟨a, b⟩ := s.off hu h2 h3
    exact .own (h1.mono s h3) a b h4 h5
  | exc h1 h2 => exact .exc h1 (h2.mono s.le)
theorem EnvR.step (s : Step c₁ H₁ c H) (h : EnvR m c₁ H₁ pin me He ρ σ) : EnvR m c H pin me He ρ σ := ⟨h.len, fun i sl e => (h.at_ i sl e).step s, h.nd⟩

/-- an expression's outcome, told from the state it began in -/
def Post (m : Pm) (W : WX) (c : Cfg) (H : Hp) (σ : St) (out : Out Rv) (Q : VK) : Prop := match out with
  | .ok r S => ∀ c' H' v, Step c H c' H' → Wd m c' H' S → RRv m c' H' H v r → Q v H'
  | .exc k ds S => ∀ c' H' cls d, Step c H c' H' → Wd m c' H' S → ExR m c' cls d k ds → W cls d σ H'
  | .bad => False
/-- .. a list of values -/
def PostL (m : Pm) (W : WX) (c : Cfg) (H : Hp) (σ : St) (out : Out (List D)) (Q : List V → Hp → Prop) : Prop := match out with
  | .ok ds S => ∀ c' H' vs, Step c H c' H' → Wd m c' H' S → RDs m c' vs ds → Q vs H'
  | .exc k ds S => ∀ c' H' cls d, Step c H c' H' → Wd m c' H' S → ExR m c' cls d k ds → W cls d σ H'
  | .bad => False
variable (T : Tab) (C : Calls)
def tI (m : Pm) (pin : Pin) (W : WX) (e : E) : TE := fun σ H Q => ∃ c ρ S me He, EnvR m c H pin me He ρ σ ∧ Wd m c H S ∧ Post m W c H σ (evE T C e ρ S) Q
def tL (m : Pm) (pin : Pin) (W : WX) (es : Es) : TA := fun σ H Q => ∃ c ρ S me He, EnvR m c H pin me He ρ σ ∧ Wd m c H S ∧ PostL m W c H σ (evL T C es ρ S) Q
variable {T C}
theorem Post.weak {out : Out Rv} {Q' : VK} (h : Post m W c H σ out Q) (q : ∀ v H', Q v H' → Q' v H') : Post m W c H σ out Q' := by
  cases out with
  | ok r S => exact fun c' H' v s w x => q _ _ (h c' H' v s w x)
  | exc k ds S => exact h
  | bad => exact h
theorem tI_weak {e : E} {Q' : VK} (h : tI T C m pin W e σ H Q) (q : ∀ v H', Q v H' → Q' v H') : tI T C m pin W e σ H Q' := by
  obtain ⟨c, ρ, S, me, He, h1, h2, h3⟩ := h
  exact ⟨c, ρ, S, me, He, h1, h2, h3.weak q⟩
/-- one expression's evaluation, then the rest: α the rest's kind of answer -/
theorem tI_step {e : E} {g : Rv → Store → Out Rv} (E : EnvR m c H pin me He ρ σ) (s : Step c₀ H₀ c H) (w : Wd m c H S) (h : Post m W c₀ H₀ σ ((evE T C e ρ S).bind g) Q) :
    tI T C m pin W e σ H (fun v H1 => ∃ c1 S1 r, evE T C e ρ S = .ok r S1 ∧ Step c H c1 H1 ∧ Wd m c1 H1 S1 ∧ RRv m c1 H1 H v r ∧ Post m W c₀ H₀ σ (g r S1) Q) := by
  refine ⟨c, ρ, S, me, He, E, w, ?_⟩
  cases q : evE T C e ρ S with
  | ok r S1 =>
    rw [q] at h
    exact fun c' H' v st w' x => ⟨c', S1, r, rfl, st, w', x, h⟩
  | exc k ds S1 =>
    rw [q] at h
    exact fun c' H' cls d st w' x => h c' H' cls d (s.trans st) w' x
  | bad =>
    rw [q] at h
    exact h
theorem tI_stepL {e : E} {g : Rv → Store → Out (List D)} {Q : List V → Hp → Prop} (E : EnvR m c H pin me He ρ σ) (s : Step c₀ H₀ c H) (w : Wd m c H S) (h : PostL m W c₀ H₀ σ ((evE T C e ρ S).bind g) Q) :
    tI T C m pin W e σ H (fun v H1 => ∃ c1 S1 r, evE T C e ρ S = .ok r S1 ∧ Step c H c1 H1 ∧ Wd m c1 H1 S1 ∧ RRv m c1 H1 H v r ∧ PostL m W c₀ H₀ σ (g r S1) Q) := by
  refine ⟨c, ρ, S, me, He, E, w, ?_⟩
  cases q : evE T C e ρ S with
  | ok r S1 =>
    rw [q] at h
    exact fun c' H' v st w' x => ⟨c', S1, r, rfl, st, w', x, h⟩
  | exc k ds S1 =>
    rw [q] at h
    exact fun c' H' cls d st w' x => h c' H' cls d (s.trans st) w' x
  | bad =>
    rw [q] at h
    exact h
theorem tL_step {es : Es} {g : List D → Store → Out Rv} (E : EnvR m c H pin me He ρ σ) (s : Step c₀ H₀ c H) (w : Wd m c H S) (h : Post m W c₀ H₀ σ ((evL T C es ρ S).bind g) Q) :
    tL T C m pin W es σ H (fun vs H1 => ∃ c1 S1 ds, evL T C es ρ S = .ok ds S1 ∧ Step c H c1 H1 ∧ Wd m c1 H1 S1 ∧ RDs m c1 vs ds ∧ Post m W c₀ H₀ σ (g ds S1) Q) := by
  refine ⟨c, ρ, S, me, He, E, w, ?_⟩
  cases q : evL T C es ρ S with
  | ok r S1 =>
    rw [q] at h
    exact fun c' H' v st w' x => ⟨c', S1, r, rfl, st, w', x, h⟩
  | exc k ds S1 =>
    rw [q] at h
    exact fun c' H' cls d st w' x => h c' H' cls d (s.trans st) w' x
  | bad =>
    rw [q] at h
    exact h
theorem tL_stepL {es : Es} {g : List D → Store → Out (List D)} {Q : List V → Hp → Prop} (E : EnvR m c H pin me He ρ σ) (s : Step c₀ H₀ c H) (w : Wd m c H S) (h : PostL m W c₀ H₀ σ ((evL T C es ρ S).bind g) Q) :
    tL T C m pin W es σ H (fun vs H1 => ∃ c1 S1 ds, evL T C es ρ S = .ok ds S1 ∧ Step c H c1 H1 ∧ Wd m c1 H1 S1 ∧ RDs m c1 vs ds ∧ PostL m W c₀ H₀ σ (g ds S1) Q) := by
  refine ⟨c, ρ, S, me, He, E, w, ?_⟩
  cases q : evL T C es ρ S with
  | ok r S1 =>
    rw [q] at h
    exact fun c' H' v st w' x => ⟨c', S1, r, rfl, st, w', x, h⟩
  | exc k ds S1 =>
    rw [q] at h
    exact fun c' H' cls d st w' x => h c' H' cls d (s.trans st) w' x
  | bad =>
    rw [q] at h
    exact h
theorem PE.imp {X : Cx} {e : Expr} {t t' : TE} (h : PE X e t) (i : ∀ σ H Q, t' σ H Q → t σ H Q) : PE X e t' := ⟨fun pins s σ H Q I q => h.run pins s σ H Q I (i σ H Q q)⟩
theorem PT.imp {X : Cx} {e : Expr} {t t' : TT} (h : PT X e t) (i : ∀ σ H Q, t' σ H Q → t σ H Q) : PT X e t' := ⟨fun pins s σ H Q I q => h.run pins s σ H Q I (i σ H Q q)⟩
theorem PA.imp {X : Cx} {es : List Expr} {t t' : TA} (h : PA X es t) (i : ∀ σ H Q, t' σ H Q → t σ H Q) : PA X es t' := ⟨fun pos pins s σ H Q I q => h.run pos pins s σ H Q I (i σ H Q q)⟩

/-- two operands seen -/
def Seen2 (m : Pm) (W : WX) (c : Cfg) (H : Hp) (σ : St) (x y : V) (H2 : Hp) (k : Rv → Rv → Store → Out Rv) (Q : VK) : Prop :=
  ∃ c2 S2 ra rb, Step c H c2 H2 ∧ Wd m c2 H2 S2 ∧ RRv m c2 H2 H x ra ∧ RRv m c2 H2 H y rb ∧ Post m W c H σ (k ra rb S2) Q
theorem tI_two {a b : E} {k : Rv → Rv → Store → Out Rv} (E : EnvR m c H pin me He ρ σ) (w : Wd m c H S)
    (h : Post m W c H σ ((evE T C a ρ S).bind fun ra S1 => (evE T C b ρ S1).bind fun rb S2 => k ra rb S2) Q) :
    tI T C m pin W a σ H (fun x H1 => tI T C m pin W b σ H1 (fun y H2 => Seen2 m W c H σ x y H2 k Q)) := by
  refine tI_weak (tI_step E (Step.refl c H) w h) ?_
  rintro x H1 ⟨c1, S1, ra, _, s1, w1, x1, h1⟩
  refine tI_weak (tI_step (E.step s1) s1 w1 h1) ?_
  rintro y H2 ⟨c2, S2, rb, _, s2, w2, x2, h2⟩
  exact ⟨c2, S2, ra, rb, s1.trans s2, w2, x1.mono s2, x2.back s1.dom, h2⟩
end
end R

set_option maxHeartbeats 1000000
/-! Dicts whose keys are tuples. -/
namespace R
open PySem L2
section
variable {X : Cx} {tb : Tb} {pins : List (Addr × Obj)} {σ : St} {s : Shared} {c : Cfg} {H : Hp} {S : Store}
mutual
theorem RD.nis (w : Wd (mX X tb) c H S) (I : Inv X pins σ H s) : ∀ (d : D) (v : V) (u : Value) (k : NestedKey), RD (mX X tb) c v d → nk d = some k → RelV v u → NestedIs s.heap k u
  | .non, _, _, _, h, e, r => by cases h; cases e; cases (show _ = Value.none from r); exact .none
  | .bl b, _, _, _, h, e, r => by cases h; cases e; cases (show _ = Value.bool b from r); exact .bool rfl
  | .int i, _, _, _, h, e, r => by cases h; cases e; obtain ⟨t, rfl⟩ := r; exact .int i t
  | .str x, _, _, _, h, e, r => by cases h; cases e; obtain ⟨t, rfl⟩ := r; exact .text x t
  | .tup ds, _, u, k, h, e, r => by
    cases h with
    | @tup p vs _ h1 h2 =>
      have e : (nkAll ds).map NestedKey.tup = some k := e
      obtain ⟨ks, e1, rfl⟩ := Option.map_eq_some_iff.mp e
      cases (show u = Value.ref p from r)
      obtain ⟨its, rv, ⟨o, ho, hc, n, hd⟩, _⟩ := I.tuple (sqT_mono w.le h1)
      exact .tup ho hc hd (RDs.nis w I ds vs its ks h2 e1 rv)
  | .lst _, _, _, _, _, e, _ => by cases e
  | .dct _, _, _, _, _, e, _ => by cases e
  | .ins _ _, _, _, _, _, e, _ => by cases e
  | .obj _, _, _, _, _, e, _ => by cases e
  | .scr _, _, _, _, _, e, _ => by cases e
theorem RDs.nis (w : Wd (mX X tb) c H S) (I : Inv X pins σ H s) : ∀ (ds : List D) (vs : List V) (us : List Value) (ks : List NestedKey), RDs (mX X tb) c vs ds → nkAll ds = some ks → Vals vs us → NestedAll s.heap ks us
  | [], _, _, _, h, e, r => by cases h; cases e; cases r; exact .nil
  | d :: ds, _, us, ks, h, e, r => by
    cases h with
    | cons h1 h2 =>
      cases r with
      | cons r1 r2 =>
        unfold nkAll at e
        split at e
        · rename_i a b e1 e2
          cases e
          exact .cons (RD.nis w I d _ _ a h1 e1 r1) (RDs.nis w I ds _ _ b h2 e2 r2)
        · cases e
end
abbrev kn (X : Cx) := nestedKind X.prog X.w
/-- a dict's entries, read off the heap -/
theorem dict_of (w : Wd (mX X tb) c H S) (I : Inv X pins σ H s) {p : Addr} {es : DE} {kvs : List (D × D)} (h : H p = some (dHO (mX X tb) p es)) (r : RKs (mX X tb) c es.1 kvs) :
    (p == sysModules) = false ∧ es.1.length ≤ sizeLine ∧ ∃ xs : List (NestedKey × Addr × Value), Paired (fun (e : DEnt) (x : NestedKey × Addr × Value) => e.1 = x.1 ∧ e.2.1 = x.2.1 ∧ RelV e.2.2 x.2.2) es.1 xs ∧ s.heap.DictOfH (kn X) p xs := by
  obtain ⟨es, o⟩ := es
  obtain ⟨⟨hz, hs, xs, hp, eds, ep, h1, h2, h3, h4, h5⟩, hx⟩ := I.hok p _ h
  dsimp only at hz hp h1 h2 h3 r ⊢
  clear hx
  refine ⟨hs, hz, xs, hp, o, eds, ep, h1, h2, h3, h4, ?_, h5⟩
  clear h4 h5
  clear h
  clear hz
  induction hp generalizing kvs with
  | nil => intro x hx; cases hx
  | cons e1 e2 ih =>
    cases r with
    | cons r0 r1 r2 r3 =>
      intro x hx
      rcases List.mem_cons.mp hx with rfl | hx
      · rw [← e1.1, ← e1.2.1]
        exact ⟨RD.nis w I _ _ _ _ r1 r0.1 rfl, r0.2⟩
      · exact ih r3 x hx
/-- what stands under a key -/
theorem at_rel {m : Pm} {es : List DEnt} {xs : List (NestedKey × Addr × Value)} {kvs : List (D × D)} {k : NestedKey} (hp : Paired (fun (e : DEnt) (x : NestedKey × Addr × Value) => e.1 = x.1 ∧ e.2.1 = x.2.1 ∧ RelV e.2.2 x.2.2) es xs) (r : RKs m c es kvs) :
    match getD kvs k, atKey xs k with
    | none, none => True
    | some d, some q => ∃ v, RD m c v d ∧ RelV v q.2
    | _, _ => False := by
  induction hp generalizing kvs with
  | nil => cases r; exact True.intro
  | @cons e x _ _ e1 e2 ih =>
    cases r with
    | cons r0 r1 r2 r3 =>
      rename_i ke ve kvs'
      have ih := ih r3
      unfold getD atKey at ih ⊢
      rw [List.find?_cons, List.find?_cons]
      by_cases q : x.1 = k
      · have q' : nk ke = some k := by rw [r0.1, e1.1, q]
        simp only [q, q', decide_true, Option.map_some]
        exact ⟨_, r2, e1.2.2⟩
      · have q' : ¬ nk ke = some k := by
          rw [r0.1, e1.1]; intro z; exact q (Option.some.inj z)
        simp only [q, q', decide_false]
        exact ih

theorem RT.dct {m : Pm} {v : V} (w : Wd m c H S) {kvs : List (D × D)} (h : RT m c H v (.dct kvs)) : ∃ p es, v = .ref p ∧ H p = some (dHO m p es) ∧ RKs m c es.1 kvs := by
  generalize e : D.dct kvs = d at h
  cases h with
  | val h =>
    subst e
    cases h with
    | dct h1 h2 => exact ⟨_, _, rfl, w.le _ _ h1, h2⟩
  | top h =>
    cases h with
    | lst h1 h2 => cases e
    | dct h1 h2 => cases e; exact ⟨_, _, rfl, h1, h2⟩
    | ins h1 h2 h3 => cases e
theorem RT.tupD {m : Pm} {v : V} {xs : List D} (h : RT m c H v (.tup xs)) : RD m c v (.tup xs) := by
  generalize e : D.tup xs = d at h
  cases h with
  | val h => subst e; exact h
  | top h => cases h <;> cases e
theorem keyOf_is {d : D} {k : NestedKey} (h : keyOf d = some k) : (∃ xs, d = .tup xs) ∧ nk d = some k ∧ k.depth ≤ 8 := by
  unfold keyOf at h
  split at h
  · split at h
    · rename_i k' e
      split at h
      · rename_i hd
        cases h
        exact ⟨⟨_, rfl⟩, e, hd⟩
      · cases h
    · cases h
  · cases h
theorem key_ref {m : Pm} {v : V} {d : D} {k : NestedKey} (h : RD m c v d) (e : keyOf d = some k) : ∃ b, v = .ref b := by
  obtain ⟨⟨xs, rfl⟩, _, _⟩ := keyOf_is e
  cases h
  exact ⟨_, rfl⟩
/-- d[k] -/
def rDGet (m : Pm) : R2 := fun x y H Q => ∃ c S kvs d k dv, Wd m c H S ∧ RT m c H x (.dct kvs) ∧ RD m c y d ∧ keyOf d = some k ∧ getD kvs k = some dv ∧ ∀ v, RD m c v dv → Q v H
theorem op_dGet (hu : X.A.units + 64 < cLine) : OpR X getItem (rDGet (mX X tb)) := by
  intro pins s σ H x y v u Q I rx ry h
  obtain ⟨c, S, kvs, d, k, dv, w, hx, hy, hk, hg, q⟩ := h
  obtain ⟨p, es, rfl, hp, hr⟩ := hx.dct w
  obtain ⟨b, rfl⟩ := key_ref hy hk
  cases rx
  cases ry
  obtain ⟨hs, hz, xs, hP, dd⟩ := dict_of w I hp hr
  have ar := at_rel (k := k) hP hr
  rw [hg] at ar
  cases ha : atKey xs k with
  | none => rw [ha] at ar; exact ar.elim
  | some z =>
    rw [ha] at ar
    obtain ⟨v, r1, r2⟩ := ar
    exact wpAny_getItem_heap (knd := kn X) (show X.A.units + 1 + 8 < cLine by omega) ⟨RD.nis w I _ _ _ _ hy (keyOf_is hk).2.1 rfl, (keyOf_is hk).2.2⟩ dd ha ⟨v, H, I.tok _, r2, q v r1⟩
/-- k in d, k not in d -/
def rDIn (m : Pm) (neg : Bool) : R2 := fun y x H Q => ∃ c S kvs d k, Wd m c H S ∧ RT m c H x (.dct kvs) ∧ RD m c y d ∧ keyOf d = some k ∧ Q (.bl ((getD kvs k).isSome != neg)) H
theorem at_some {m : Pm} {es : List DEnt} {xs : List (NestedKey × Addr × Value)} {kvs : List (D × D)} {k : NestedKey} (hp : Paired (fun (e : DEnt) (x : NestedKey × Addr × Value) => e.1 = x.1 ∧ e.2.1 = x.2.1 ∧ RelV e.2.2 x.2.2) es xs) (r : RKs m c es kvs) : (atKey xs k).isSome = (getD kvs k).isSome := by
  have ar := at_rel (k := k) hp r
  split at ar
  · rename_i e1 e2; rw [e1, e2]; rfl
  · rename_i e1 e2; rw [e1, e2]; rfl
  · exact ar.elim
theorem op_dIn (hu : X.A.units + 64 < cLine) : OpR X (compareOp .In) (rDIn (mX X tb) false) := by
  intro pins s σ H y x u v Q I ry rx h
  obtain ⟨c, S, kvs, d, k, w, hx, hy, hk, q⟩ := h
  obtain ⟨p, es, rfl, hp, hr⟩ := hx.dct w
  obtain ⟨b, rfl⟩ := key_ref hy hk
  cases rx
  cases ry
  obtain ⟨hs, hz, xs, hP, dd⟩ := dict_of w I hp hr
  refine wpAny_in_heap (knd := kn X) (show X.A.units + 1 + 8 < cLine by omega) ⟨RD.nis w I _ _ _ _ hy (keyOf_is hk).2.1 rfl, (keyOf_is hk).2.2⟩ hs dd ?_
  rw [at_some hP hr]
  exact ⟨.bl _, H, I.tok _, rfl, by simpa using q⟩
theorem op_dNotIn (hu : X.A.units + 64 < cLine) : OpR X (compareOp .NotIn) (rDIn (mX X tb) true) := by
  intro pins s σ H y x u v Q I ry rx h
  obtain ⟨c, S, kvs, d, k, w, hx, hy, hk, q⟩ := h
  obtain ⟨p, es, rfl, hp, hr⟩ := hx.dct w
  obtain ⟨b, rfl⟩ := key_ref hy hk
  cases rx
  cases ry
  obtain ⟨hs, hz, xs, hP, dd⟩ := dict_of w I hp hr
  refine PyProof.Rows.wpAny_notIn_heap (knd := kn X) (show X.A.units + 1 + 8 < cLine by omega) ⟨RD.nis w I _ _ _ _ hy (keyOf_is hk).2.1 rfl, (keyOf_is hk).2.2⟩ hs dd ?_
  rw [at_some hP hr]
  exact ⟨.bl _, H, I.tok _, rfl, by simpa using q⟩

abbrev PE3 := fun (e : DEnt) (x : NestedKey × Addr × Value) => e.1 = x.1 ∧ e.2.1 = x.2.1 ∧ RelV e.2.2 x.2.2
def setE (k : NestedKey) (v : V) (e : DEnt) : DEnt := if e.1 = k then (e.1, e.2.1, v) else e
def setD (k : NestedKey) (v : D) (e : D × D) : D × D := if nk e.1 = some k then (e.1, v) else e
theorem map_rel {m : Pm} {k : NestedKey} {v : V} {u : Value} {dv : D} (rv : RelV v u) (hv : RD m c v dv) {es : List DEnt} {xs : List (NestedKey × Addr × Value)} {kvs : List (D × D)} (hp : Paired PE3 es xs) (r : RKs m c es kvs) :
    Paired PE3 (es.map (setE k v)) (xs.map (putAt k u)) ∧ RKs m c (es.map (setE k v)) (kvs.map (setD k dv)) := by
  induction hp generalizing kvs with
  | nil => cases r; exact ⟨.nil, .nil⟩
  | @cons e x _ _ e1 e2 ih =>
    cases r with
    | cons r0 r1 r2 r3 =>
      rename_i ke ve kvs'
      obtain ⟨i1, i2⟩ := ih r3
      rw [List.map_cons, List.map_cons, List.map_cons]
      by_cases q : e.1 = k
      · have a1 : setE k v e = (e.1, e.2.1, v) := if_pos q
        have a2 : putAt k u x = (x.1, x.2.1, u) := if_pos (e1.1 ▸ q)
        have a3 : setD k dv (ke, ve) = (ke, dv) := if_pos (by rw [← q]; exact r0.1)
        rw [a1, a2, a3]
        exact ⟨.cons ⟨e1.1, e1.2.1, rv⟩ i1, .cons r0 r1 hv i2⟩
      · have a1 : setE k v e = e := if_neg q
        have a2 : putAt k u x = x := if_neg (e1.1 ▸ q)
        have a3 : setD k dv (ke, ve) = (ke, ve) := if_neg (by rw [r0.1]; intro z; exact q (Option.some.inj z))
        rw [a1, a2, a3]
        exact ⟨.cons e1 i1, .cons r0 r1 r2 i2⟩
theorem RKs.snoc {m : Pm} {e : DEnt} {k v : D} : ∀ {es : List DEnt} {kvs : List (D × D)}, RKs m c es kvs → nk k = some e.1 ∧ e.1.depth ≤ 8 → RD m c (.ref e.2.1) k → RD m c e.2.2 v → RKs m c (es ++ [e]) (kvs ++ [(k, v)])
  | _, _, .nil, a, b, d => .cons a b d .nil
  | _, _, .cons r0 r1 r2 r3, a, b, d => .cons r0 r1 r2 (RKs.snoc r3 a b d)
/-- what is stored -/
theorem put_rel {m : Pm} {k : NestedKey} {kd dv : D} {b : Addr} {v : V} {u : Value} (rv : RelV v u) (hv : RD m c v dv) (hk : RD m c (.ref b) kd) (ek : nk kd = some k ∧ k.depth ≤ 8)
    {es : List DEnt} {xs : List (NestedKey × Addr × Value)} {kvs : List (D × D)} (hp : Paired PE3 es xs) (r : RKs m c es kvs) :
    ∃ es', es'.length ≤ es.length + 1 ∧ Paired PE3 es' (storedH xs k b u) ∧ RKs m c es' (putD kvs k kd dv) := by
  have q := at_some (k := k) hp r
  unfold storedH putD
  rw [q]
  by_cases z : (getD kvs k).isSome = true
  · rw [if_pos z, if_pos z]
    obtain ⟨i1, i2⟩ := map_rel (k := k) rv hv hp r
    exact ⟨_, by rw [List.length_map]; omega, i1, i2⟩
  · rw [if_neg z, if_neg z]
    exact ⟨es ++ [(k, b, v)], by simp, hp.snoc ⟨rfl, rfl, rv⟩, r.snoc ek hk hv⟩
theorem dict_ok {m : Pm} {H' : Hp} {h' : Heap} {p : Addr} {es : List DEnt} {xs : List (NestedKey × Addr × Value)} (hz : es.length ≤ sizeLine) (hs : (p == sysModules) = false) (hp : Paired PE3 es xs)
    (dd : h'.DictOfH (nestedKind m.P m.w) p xs) {o : Obj} (ho : h'.get? p = some o) : ObjOk m.P m.w H' h' p (dHO m p (es, o)) := by
  obtain ⟨o', eds, ep, h1, h2, h3, h4, _, h5⟩ := dd
  rw [ho] at h1
  cases h1
  refine ⟨⟨hz, hs, xs, hp, eds, ep, ho, h2, h3, h4, h5⟩, ⟨o, ho⟩, fun a b φ k => ?_⟩
  obtain ⟨z1, z2, ys, z3, eds', ep', g1, g2⟩ := φ
  exact ⟨z1, z2, ys, z3, eds', ep', k _ g1, g2⟩
/-- d[k] = v -/
def rDSet (m : Pm) : V → V → V → Hp → (Hp → Prop) → Prop := fun x y v H Q => ∃ c S p es kvs d k dv, x = .ref p ∧ Wd m c H S ∧ H p = some (dHO m p es) ∧ RKs m c es.1 kvs ∧ RD m c y d ∧ keyOf d = some k ∧ RD m c v dv ∧ kvs.length < sizeLine ∧
  ∀ es' : DE, RKs m c es'.1 (putD kvs k d dv) → Q (upd H p (dHO m p es'))
theorem RKs.length {m : Pm} : ∀ {es : List DEnt} {kvs : List (D × D)}, RKs m c es kvs → es.length = kvs.length
  | _, _, .nil => rfl
  | _, _, .cons _ _ _ r => by rw [List.length_cons, List.length_cons, RKs.length r]
theorem set_dKey (hu : X.A.units + 64 < cLine) : PSet X (rDSet (mX X tb)) := by
  intro pins s σ H o i v ov iv u Q I ro ri rv h
  obtain ⟨c, S, p, es, kvs, d, k, dv, rfl, w, hp, hr, hy, hk, hv, hz, q⟩ := h
  obtain ⟨b, rfl⟩ := key_ref hy hk
  cases ro
  cases ri
  obtain ⟨hs, _, xs, hP, dd⟩ := dict_of w I hp hr
  have hl := hr.length
  have hx : xs.length ≤ sizeLine := by rw [← Paired.length hP]; omega
  refine wpAny_setItem_heap (knd := kn X) (hsz := hx) (show X.A.units + 1 + 8 < cLine by omega) ⟨RD.nis w I _ _ _ _ hy (keyOf_is hk).2.1 rfl, (keyOf_is hk).2.2⟩ dd fun h' dd' hs' => ?_
  obtain ⟨es', e1, e2, e3⟩ := put_rel (k := k) rv hv hy (keyOf_is hk).2 hP hr
  obtain ⟨ob, hob⟩ : ∃ q, h'.get? p = some q := let ⟨q, _, _, hq, _⟩ := dd'; ⟨q, hq⟩
  exact ⟨_, I.write (x := p) (e := p) (by rw [hp]; exact True.intro) (.inl rfl) (fun a g hn z => (hs'.2 a hn).trans z) ⟨ob, hob⟩ (dict_ok (m := mX X tb) (by omega) hs e2 dd' hob), q (es', ob) e3⟩
end
end R
namespace R
open PySem PySem.Spec PyProof.Rows L2
section
variable {X : Cx} {tb : Tb}
/-- d[k] as an expression -/
theorem ix_dict (hu : X.A.units + 64 < cLine) : IxR X (rDGet (mX X tb)) := by
  intro value slice pins s σ H x y v u Q I rx ry h hs
  have op := op_dGet (tb := tb) hu pins s σ H x y v u Q I rx ry h
  obtain ⟨c, S, kvs, d, k, dv, w, hx, hy, hk, hg, q⟩ := h
  obtain ⟨p, es, rfl, hp, hr⟩ := hx.dct w
  cases rx
  obtain ⟨_, _, xs, hP, dd⟩ := dict_of w I hp hr
  have hT : s.TypeIs (.ref p) "dict" := dd.typeIs
  unfold subscriptTail
  refine wpAny_bind ?_
  rw [getitemInPython_of_ne hT.not_modules]
  refine wpAny_bind (wpAny_specialOf hT PySem.F.slot_dict_getitem.lookup ?_)
  have go : wpAny (model X.prog X.w) X.A (subscripted slice false (.ref p) u) (fun r s' => wpAny (model X.prog X.w) X.A (letTemporaryGo value (.ref p) r >>= fun _ => pure r) (EP X pins σ Q) X.xe s') X.xe s := by
    rw [hs]
    exact wpAny_operating (wpAny_mono op (fun r s' h' => wpAny_bind (wpAny_letTemporaryGo (wpAny_pure h'))) fun _ _ z => z)
  first
    | exact wpAny_pure (wpAny_bind go)
    | exact wpAny_bind (wpAny_pure (wpAny_bind go))
    | exact wpAny_bind go
/-- {} -/
def nullO : Obj := { cls := .type "dict", data := .dict #[] }
def tNewD (m : Pm) : TE := fun _ H Q => ∀ p, H p = none → Q (.ref p) (upd H p (dHO m p ([], nullO)))
theorem newD_ok {P : Program} {w : World} {K : PySem.W.Frag} {H : Hp} {cl : Nat → Addr} {fn : Nat → List Str} (h : Heap) (hb : sysModules < h.objs.size) : ObjOk P w H (h.push { cls := .type "dict", data := .dict #[] }) h.objs.size (dHO ⟨P, w, K, cl, fn⟩ h.objs.size ([], nullO)) :=
  dict_ok (m := ⟨P, w, K, cl, fn⟩) (xs := []) (Nat.zero_le _) (beq_eq_false_iff_ne.mpr (Ne.symm (Nat.ne_of_lt hb))) .nil (Heap.DictOfH.new h) (Heap.get?_push_at rfl rfl)
theorem pe_newD {pos : Pos} : PE X (.Dict [] [] pos) (tNewD (mX X tb)) := ⟨fun pins s σ H Q I h =>
  wpAny_Dict_empty ⟨.ref s.heap.objs.size, _, I.laid (a := s.heap.objs.size) (o := dHO (mX X tb) s.heap.objs.size ([], nullO)) (t' := s.toks) (fun _ _ q => Heap.get?_push_of_some _ q) (Nat.le_refl _) (newD_ok s.heap I.big), rfl, h _ (I.hok.fresh (Nat.le_refl _))⟩⟩
/-- len(d) -/
def rLenD (m : Pm) : List V → Hp → VK → Prop := fun vs H Q => ∃ c S x kvs, vs = [x] ∧ Wd m c H S ∧ RT m c H x (.dct kvs) ∧ Q (.int kvs.length) H
theorem call_lenDD : CallR X (.builtin "len") (rLenD (mX X tb)) := by
  intro pins s σ H vs us Q I r h
  obtain ⟨c, S, x, kvs, rfl, w, hx, q⟩ := h
  obtain ⟨p, es, rfl, hp, hr⟩ := hx.dct w
  obtain ⟨u, rfl, ru⟩ := vals1 r
  cases ru
  obtain ⟨hs, hz, xs, hP, dd⟩ := dict_of w I hp hr
  have hl : (pairsH xs).length = kvs.length := by rw [pairsH_length, ← Paired.length hP, hr.length]
  have hz2 : kvs.length ≤ sizeLine := by rw [← hr.length]; exact hz
  refine PyProof.Rows.call_len_slot (n := (pairsH xs).length) dd.typeIs PySem.F.slot_dict_len (fun Q' hq => len_keyed hs ⟨xs, dd, rfl⟩ hq) (by omega) (by rw [hl]; rw [sizeLine_eq] at hz2; omega) ?_
  exact ⟨.int kvs.length, H, I.tok _, ⟨_, by rw [hl]⟩, q⟩
end
end R

set_option maxHeartbeats 4000000
/-! tuple * 1: the very tuple. -/
namespace R
open PySem L2 PySem.Spec PyProof.Rows
theorem tuple_mulW1 (l : Addr) (items : Array Value) (n : Nat) (dd : Option Addr) (sl : Array (Option Value)) (u : Tok) :
    Meets (Builtin.«tuple.__mul__» ⟨[.ref l, .int 1 u], []⟩) (fun _ R s => s.heap.get? l = some { cls := .type "tuple", dict := dd, data := .seq items n, slots := sl } ∧
      R (.ok (.ret (Value.ref l))) s) :=
  .of_wp fun prog w A R s h => by
    obtain ⟨hp, g, d, tk, os⟩ := s
    obtain ⟨hl, h⟩ := h
    have f1 := AutoSeq1.idx_int
    have c1 : (items.isEmpty || (1 : Int) == 1) = true := by simp
    wp_walk using wpAny_loadPart' hl
    repeat (first
      | (refine wpAny_ite_false (decide_eq_false (by decide)) ?_; wp_walk using wpAny_loadPart' hl)
      | (refine wpAny_ite_true (decide_eq_true c1) ?_; wp_walk using wpAny_loadPart' hl))
    exact ⟨_, rfl, h⟩
section
variable {X : Cx}
theorem op_repT1 : OpR X (binaryOp .Mult) (fun x y H Q => ∃ l xs, x = .ref l ∧ y = .int 1 ∧ SqT X.K H l xs ∧ Q (.ref l) H) := by
  intro pins s σ H x y v u Q I rx ry h
  obtain ⟨l, xs, rfl, rfl, hT, q⟩ := h
  cases rx
  obtain ⟨t, rfl⟩ := ry
  obtain ⟨its, r, ⟨⟨cls, dd, data, sl⟩, ho, hc, n, hd⟩, hs⟩ := I.tuple hT
  simp only at hc hd
  subst hc hd
  exact wpAny_binaryOp_repeat_ref (T := "tuple") (U := "int") (by decide) ⟨_, ho, rfl⟩ (fun s' => typeIs_int s' 1 t) noFill_tuple_mul F.fills_int_mul F.slot_int_rmul repeat_tuple F.slot_int_index.lookup
    (call_meets F.slot_int_rmul (typeIs_int s 1 t) F.entry_int_rmul (F.args_int_rmul_2 _ _) (int_rmul_tuple 1 t l its.toArray n dd sl)
      ⟨ho, rfl, ⟨_, ho, rfl⟩, call_meets F.slot_tuple_mul ⟨_, ho, rfl⟩ F.entry_tuple_mul (F.args_tuple_mul_2 _ _) (tuple_mulW1 l its.toArray n dd sl t) ⟨ho, ⟨.ref l, H, I, rfl, q⟩⟩⟩)
end
end R

set_option maxHeartbeats 1000000
/-! The operations on values seen. -/
namespace R
open PySem L2

def K1 (m : Pm) (c : Cfg) (H : Hp) (S : Store) (r : Rv) (Q : VK) : Prop := ∀ c' H' v, Step c H c' H' → Wd m c' H' S → RRv m c' H' H v r → Q v H'
section
variable {m : Pm} {c : Cfg} {H : Hp} {S : Store} {r : Rv} {Q : VK} {v : V} {d : D} {p : Addr} {vs : List V} {ds : List D}
theorem k_val (q : K1 m c H S (.val d) Q) (w : Wd m c H S) (h : RD m c v d) : Q v H := q c H v (Step.refl c H) w (.val h)
theorem k_newL (q : K1 m c H S (.own (.lst ds)) Q) (w : Wd m c H S) (h : RDs m c vs ds) (n : H p = none) : Q (.ref p) (upd H p (.lst vs)) := by
  obtain ⟨s, w'⟩ := step_new (o := .lst vs) w n
  obtain ⟨nA, nG⟩ := w.new n
  exact q c _ _ s w' (.own (.lst upd_same h) nG nA n)
theorem k_newT (q : K1 m c H S (.val (.tup ds)) Q) (w : Wd m c H S) (h : RDs m c vs ds) (n : H p = none) : Q (.ref p) (upd H p (.tup vs)) := by
  obtain ⟨s, w'⟩ := step_newG (o := .tup vs) w n
  obtain ⟨nA, nG⟩ := w.new n
  exact q _ _ _ s w' (.val (.tup (.inl (.inl upd_same)) (h.le (le_put nG))))
theorem RDs.reps (n : Nat) (h : RDs m c vs ds) : RDs m c (List.replicate n vs).flatten (List.replicate n ds).flatten := by
  induction n with
  | zero => exact .nil
  | succ n ih =>
    rw [List.replicate_succ, List.replicate_succ, List.flatten_cons, List.flatten_cons]
    exact h.append ih
theorem lim_size {n : Nat} (h : n ≤ lim) : n ≤ sizeLine := Nat.le_trans h (by decide)
theorem lim_lt {n : Nat} (h : n < lim) : n < sizeLine := Nat.lt_of_lt_of_le h (by decide)
end

def opOf : Bop → Operator
  | .add => .Add | .sub => .Sub | .mul => .Mult | .fdiv => .FloorDiv | .mod => .Mod | .pow => .Pow
def rBin (m : Pm) (op : Bop) : R2 := fun x y H Q => ∃ c S dx dy r, Wd m c H S ∧ RT m c H x dx ∧ RT m c H y dy ∧ binop op dx dy = some r ∧ K1 m c H S r Q
theorem smallI_ok {i j : Int} (h : (smallI i || smallI j) = true) : CMul i j := by
  unfold CMul
  have e : (2 : Int) ^ 64 = big64 := by decide
  rw [e]
  simp only [smallI, Bool.or_eq_true, Bool.and_eq_true, decide_eq_true_eq] at h
  exact h
/-- (1,) * n with n = 1 and its like are not met here -/
theorem op_bin {X : Cx} {tb : Tb} {op : Bop} : OpR X (binaryOp (opOf op)) (rBin (mX X tb) op) := by
  intro pins s σ H x y v u Q I rx ry h
  obtain ⟨c, S, dx, dy, r, w, hx, hy, hb, k⟩ := h
  unfold binop at hb
  split at hb
  · cases hb
    cases hx.int; cases hy.int
    exact op_add pins s σ H _ _ v u Q I rx ry ⟨_, _, rfl, rfl, k_val k w (.int _)⟩
  · split at hb
    · rename_i xs ys hl
      cases hb
      obtain ⟨p, vs, rfl, hp, hv⟩ := hx.lst w
      obtain ⟨q, us, rfl, hq, hu⟩ := hy.lst w
      exact op_cat pins s σ H _ _ v u Q I rx ry ⟨_, _, _, _, rfl, rfl, hp, hq, by rw [hv.length, hu.length]; exact lim_size hl, fun a ha => k_newL k w (hv.append hu) ha⟩
    · cases hb
  · split at hb
    · rename_i xs ys hl
      cases hb
      obtain ⟨p, vs, rfl, hp, hp', hv⟩ := hx.tup w
      obtain ⟨q, us, rfl, hq, hq', hu⟩ := hy.tup w
      refine op_catA pins s σ H _ _ v u Q I rx ry ⟨_, _, _, _, rfl, rfl, hp, hq, by rw [hv.length, hu.length]; exact lim_size hl, fun e => ?_, fun _ e => ?_, fun _ _ a ha => k_newT k w (hv.append hu) ha⟩
      · subst e
        cases hv
        exact k_val k w (.tup hq' hu)
      · subst e
        cases hu
        rw [List.append_nil] at k
        exact k_val k w (.tup hp' hv)
    · cases hb
  · split at hb
    · rename_i hl
      cases hb
      cases hx.str; cases hy.str
      exact op_add_str pins s σ H _ _ v u Q I rx ry ⟨_, _, rfl, rfl, lim_size hl, k_val k w (.str _)⟩
    · cases hb
  · cases hb
    cases hx.int; cases hy.int
    exact op_sub pins s σ H _ _ v u Q I rx ry ⟨_, _, rfl, rfl, k_val k w (.int _)⟩
  · split at hb
    · rename_i hl
      cases hb
      cases hx.int; cases hy.int
      exact op_mul pins s σ H _ _ v u Q I rx ry ⟨_, _, rfl, rfl, smallI_ok hl, k_val k w (.int _)⟩
    · cases hb
  · split at hb
    · rename_i xs n hl
      cases hb
      obtain ⟨p, vs, rfl, hp, hv⟩ := hx.lst w
      cases hy.int
      simp only [Bool.and_eq_true, decide_eq_true_eq] at hl
      exact op_rep pins s σ H _ _ v u Q I rx ry ⟨_, _, _, rfl, rfl, hp, by have := hl.1.2; omega, by have := hl.1.2; omega, by rw [hv.length]; exact lim_size hl.2, fun a ha => k_newL k w (hv.reps _) ha⟩
    · cases hb
  · split at hb
    · rename_i xs n hl
      cases hb
      obtain ⟨p, vs, rfl, hp, hp', hv⟩ := hx.tup w
      cases hy.int
      simp only [Bool.and_eq_true, decide_eq_true_eq] at hl
      by_cases h1 : n = 1
      · subst h1
        have e : reps xs 1 = xs := by show (List.replicate 1 xs).flatten = xs; simp
        rw [e] at k
        exact op_repT1 pins s σ H _ _ v u Q I rx ry ⟨_, _, rfl, rfl, hp, k_val k w (.tup hp' hv)⟩
      refine op_repT pins s σ H _ _ v u Q I rx ry ⟨_, _, _, rfl, rfl, hp, fun e => ?_, by have := hl.1.1.2; omega, hl.1.2, by rw [hv.length]; exact hl.2, fun a ha => k_newT k w (hv.reps _) ha⟩
      rw [e] at hv
      cases hv
      exact absurd hl.1.1.1 (by decide)
    · cases hb
  · split at hb
    · rename_i hl
      cases hb
      cases hx.int; cases hy.int
      simp only [Bool.and_eq_true, decide_eq_true_eq] at hl
      exact op_fdivW pins s σ H _ _ v u Q I rx ry ⟨_, _, rfl, rfl, wide_div (b := 200) hl.1 hl.2 (by decide) (by decide), k_val k w (.int _)⟩
    · cases hb
  · split at hb
    · rename_i hl
      cases hb
      cases hx.int; cases hy.int
      exact op_mod pins s σ H _ _ v u Q I rx ry ⟨_, _, rfl, rfl, hl, k_val k w (.int _)⟩
    · cases hb
  · split at hb
    · rename_i hl
      cases hb
      cases hx.int; cases hy.int
      simp only [Bool.and_eq_true, decide_eq_true_eq] at hl
      obtain ⟨⟨h1, h2⟩, h3⟩ := hl
      refine op_pow pins s σ H _ _ v u Q I rx ry ⟨_, _, rfl, rfl, ⟨h1, by omega, ?_⟩, k_val k w (.int _)⟩
      unfold smallI big64 at h3
      rw [Bool.and_eq_true, decide_eq_true_eq, decide_eq_true_eq] at h3
      have e : (2 : Nat) ^ 64 = 18446744073709551616 := by decide
      rw [e]
      omega
    · cases hb
  · cases hb

def copOf : Cop → CmpOp
  | .eq => .Eq | .ne => .NotEq | .lt => .Lt | .le => .LtE | .gt => .Gt | .ge => .GtE
def rCmp (m : Pm) (op : Cop) : R2 := fun x y H Q => ∃ c S dx dy b, Wd m c H S ∧ RT m c H x dx ∧ RT m c H y dy ∧ cmpop op dx dy = some b ∧ Q (.bl b) H
theorem eqD_of {x y : D} {b : Bool} (h : eqD x y = some b) : ∃ a e, py x = some a ∧ py y = some e ∧ SeqAt.shaped a = true ∧ SeqAt.shaped e = true ∧ b = PyData.eqv a e := by
  unfold eqD at h
  split at h
  · rename_i a e h1 h2
    split at h
    · rename_i hs
      cases h
      rw [Bool.and_eq_true] at hs
      exact ⟨a, e, h1, h2, hs.1, hs.2, rfl⟩
    · cases h
  · cases h
theorem op_cmp {X : Cx} {tb : Tb} {op : Cop} (hu : X.A.units + 64 < cLine) : OpR X (compareOp (copOf op)) (rCmp (mX X tb) op) := by
  intro pins s σ H x y v u Q I rx ry h
  obtain ⟨c, S, dx, dy, b, w, hx, hy, hb, k⟩ := h
  unfold cmpop at hb
  split at hb
  · obtain ⟨a, e, h1, h2, s1, s2, rfl⟩ := eqD_of hb
    exact op_eqD hu pins s σ H _ _ v u Q I rx ry ⟨a, e, hx.dp w h1, hy.dp w h2, s1, s2, k⟩
  · obtain ⟨b', hb', e⟩ := Option.map_eq_some_iff.mp hb
    obtain ⟨a, e', h1, h2, s1, s2, rfl⟩ := eqD_of hb'
    subst e
    exact op_neD hu pins s σ H _ _ v u Q I rx ry ⟨a, e', hx.dp w h1, hy.dp w h2, s1, s2, k⟩
  · cases hb
    cases hx.int; cases hy.int
    exact op_lt pins s σ H _ _ v u Q I rx ry ⟨_, _, rfl, rfl, k⟩
  · cases hb
    cases hx.int; cases hy.int
    exact op_le pins s σ H _ _ v u Q I rx ry ⟨_, _, rfl, rfl, k⟩
  · cases hb
    cases hx.int; cases hy.int
    exact op_gt pins s σ H _ _ v u Q I rx ry ⟨_, _, rfl, rfl, k⟩
  · cases hb
    cases hx.int; cases hy.int
    exact op_ge pins s σ H _ _ v u Q I rx ry ⟨_, _, rfl, rfl, k⟩
  · cases hb

/-- in, not in -/
theorem inD_of {x : D} {ys : List D} {b : Bool} (h : inD x ys = some b) : ∃ a bs, py x = some a ∧ pyAll ys = some bs ∧ SeqAt.shaped a = true ∧ SeqAt.shaped (.list bs) = true ∧ b = bs.any fun z => PyData.eqv z a := by
  unfold inD at h
  split at h
  · rename_i a e h1 h2
    split at h
    · rename_i hs
      cases h
      rw [Bool.and_eq_true] at hs
      exact ⟨a, e, h1, h2, hs.1, hs.2, rfl⟩
    · cases h
  · cases h
def rIsin (m : Pm) (neg : Bool) : R2 := fun x y H Q => ∃ c S dx ys b, Wd m c H S ∧ RT m c H x dx ∧ RT m c H y (.lst ys) ∧ inD dx ys = some b ∧ Q (.bl (b != neg)) H
theorem bne_false' (b : Bool) : (b != false) = b := by cases b <;> rfl
theorem bne_true' (b : Bool) : (b != true) = !b := by cases b <;> rfl
theorem op_isinL {X : Cx} {tb : Tb} (hu : X.A.units + 65 < cLine) : OpR X (compareOp .In) (rIsin (mX X tb) false) ∧ OpR X (compareOp .NotIn) (rIsin (mX X tb) true) := by
  refine ⟨?_, ?_⟩
  · intro pins s σ H x y v u Q I rx ry h
    obtain ⟨c, S, dx, ys, b, w, hx, hy, hb, k⟩ := h
    obtain ⟨a, bs, h1, h2, s1, s2, rfl⟩ := inD_of hb
    rw [bne_false'] at k
    exact op_inD hu pins s σ H _ _ v u Q I rx ry ⟨a, bs, hx.dp w h1, hy.dp w (by rw [py, h2]; rfl), s1, s2, k⟩
  · intro pins s σ H x y v u Q I rx ry h
    obtain ⟨c, S, dx, ys, b, w, hx, hy, hb, k⟩ := h
    obtain ⟨a, bs, h1, h2, s1, s2, rfl⟩ := inD_of hb
    rw [bne_true'] at k
    exact op_notInD hu pins s σ H _ _ v u Q I rx ry ⟨a, bs, hx.dp w h1, hy.dp w (by rw [py, h2]; rfl), s1, s2, k⟩
theorem strsOf_vs {m : Pm} {c : Cfg} : ∀ {ys : List D} {vs : List V} {zs : List Str}, strsOf ys = some zs → RDs m c vs ys → vs = zs.map V.str
  | [], _, _, e, h => by cases h; cases e; rfl
  | .str x :: r, _, zs, e, h => by
    obtain ⟨zs', e1, e2⟩ := Option.map_eq_some_iff.mp (show (strsOf r).map (x :: ·) = some zs from e)
    subst e2
    cases h with
    | cons h1 h2 =>
      cases h1
      rw [strsOf_vs e1 h2]
      rfl
  | .non :: r, _, _, e, _ => by cases e
  | .bl _ :: r, _, _, e, _ => by cases e
  | .int _ :: r, _, _, e, _ => by cases e
  | .tup _ :: r, _, _, e, _ => by cases e
  | .lst _ :: r, _, _, e, _ => by cases e
  | .dct _ :: r, _, _, e, _ => by cases e
  | .ins _ _ :: r, _, _, e, _ => by cases e
  | .obj _ :: r, _, _, e, _ => by cases e
  | .scr _ :: r, _, _, e, _ => by cases e
theorem flat_strs (zs : List Str) : (zs.map V.str).all flatV = true := by
  rw [List.all_map]
  exact List.all_eq_true.mpr fun _ _ => rfl
theorem inV_strs (x : Str) (zs : List Str) : inV (.str x) (zs.map V.str) = zs.any fun z => z == x := by
  unfold inV
  rw [List.any_map]
  rfl
def rIsinT (m : Pm) (neg : Bool) : R2 := fun x y H Q => ∃ c S z ys zs, Wd m c H S ∧ x = .str z ∧ RT m c H y (.tup ys) ∧ strsOf ys = some zs ∧ Q (.bl ((zs.any fun a => a == z) != neg)) H
theorem op_isinT {X : Cx} {tb : Tb} : OpR X (compareOp .In) (rIsinT (mX X tb) false) ∧ OpR X (compareOp .NotIn) (rIsinT (mX X tb) true) := by
  refine ⟨?_, ?_⟩
  · intro pins s σ H x y v u Q I rx ry h
    obtain ⟨c, S, z, ys, zs, w, rfl, hy, hz, k⟩ := h
    obtain ⟨p, vs, rfl, hp, _, hv⟩ := hy.tup w
    have e := strsOf_vs hz hv
    subst e
    rw [bne_false'] at k
    exact op_in_seq pins s σ H _ _ v u Q I rx ry ⟨p, _, rfl, .inr hp, rfl, flat_strs zs, by rw [inV_strs]; exact k⟩
  · intro pins s σ H x y v u Q I rx ry h
    obtain ⟨c, S, z, ys, zs, w, rfl, hy, hz, k⟩ := h
    obtain ⟨p, vs, rfl, hp, _, hv⟩ := hy.tup w
    have e := strsOf_vs hz hv
    subst e
    rw [bne_true'] at k
    exact op_notIn_seq pins s σ H _ _ v u Q I rx ry ⟨p, _, rfl, .inr hp, rfl, flat_strs zs, by rw [inV_strs]; exact k⟩
/-- x in y: a list, or a text in a tuple of texts -/
def rIn2 (m : Pm) (neg : Bool) : R2 := fun x y H Q => ∃ c S dx dy b, Wd m c H S ∧ RT m c H x dx ∧ RT m c H y dy ∧ isinop dx dy = some b ∧ Q (.bl (b != neg)) H
theorem rIn2_cases {m : Pm} {neg : Bool} {x y : V} {H : Hp} {Q : VK} (h : rIn2 m neg x y H Q) : rIsin m neg x y H Q ∨ rIsinT m neg x y H Q ∨ rDIn m neg x y H Q := by
  obtain ⟨c, S, dx, dy, b, w, hx, hy, hb, k⟩ := h
  unfold isinop at hb
  split at hb
  · exact .inl ⟨c, S, dx, _, b, w, hx, hy, hb, k⟩
  · obtain ⟨zs, e1, e2⟩ := Option.map_eq_some_iff.mp hb
    subst e2
    exact .inr (.inl ⟨c, S, _, _, zs, w, hx.str, hy, e1, k⟩)
  · obtain ⟨z, e1, e2⟩ := Option.map_eq_some_iff.mp hb
    subst e2
    obtain ⟨⟨xs, rfl⟩, _, _⟩ := keyOf_is e1
    exact .inr (.inr ⟨c, S, _, _, z, w, hy, hx.tupD, e1, k⟩)
  · cases hb
theorem op_isin {X : Cx} {tb : Tb} (hu : X.A.units + 65 < cLine) : OpR X (compareOp .In) (rIn2 (mX X tb) false) ∧ OpR X (compareOp .NotIn) (rIn2 (mX X tb) true) := by
  refine ⟨fun pins s σ H x y v u Q I rx ry h => ?_, fun pins s σ H x y v u Q I rx ry h => ?_⟩
  · rcases rIn2_cases h with h | h | h
    · exact (op_isinL hu).1 pins s σ H x y v u Q I rx ry h
    · exact op_isinT.1 pins s σ H x y v u Q I rx ry h
    · exact op_dIn (by omega) pins s σ H x y v u Q I rx ry h
  · rcases rIn2_cases h with h | h | h
    · exact (op_isinL hu).2 pins s σ H x y v u Q I rx ry h
    · exact op_isinT.2 pins s σ H x y v u Q I rx ry h
    · exact op_dNotIn (by omega) pins s σ H x y v u Q I rx ry h
end R

set_option maxHeartbeats 1000000
/-! The facts of a program, contexts; what ties a text to an E. -/
namespace R
open PySem L2

/-- what a def is -/
inductive Kd where
  | glob (x : Str) | meth (c : Nat) (x : Str) | ctor (c : Nat) | prop (c : Nat) (x : Str) | eq (c : Nat)
/-- the names -/
structure Nm where
  gn : Nat → Str
  kd : Nat → Option Kd
  cn : Nat → Str
  cls : Nat → Bool
  /-- exceptions made without arguments -/
  mk0 : Nat → Bool
  /-- the exceptions whose names are met -/
  exc : Nat → Bool
  free : List Str

/-- what a call of the def f promises -/
def PostC (m : Pm) (c : Cfg) (H : Hp) (out : Out Rv) (Q : VK) (E : XK) : Prop := match out with
  | .ok r S => ∀ c' H' v, Step c H c' H' → Wd m c' H' S → RRv m c' H' H v r → Q v H'
  | .exc k ds S => ∀ c' H' cls d, Step c H c' H' → Wd m c' H' S → ExR m c' cls d k ds → E cls d H'
  | .bad => False
def spF (m : Pm) (C : Calls) (f n : Nat) : Sp := fun vs H Q E => ∃ c ds S, Wd m c H S ∧ RDs m c vs ds ∧ vs.length = n ∧ PostC m c H (C f ds S) Q E
/-- an __init__ : the object under construction -/
def spK (m : Pm) (C : Calls) (f n k : Nat) : Sp := fun vs H Q E => ∃ c ds S H0 x dx us, vs = .ref x :: us ∧ Wd m c H0 S ∧ RDs m c us ds ∧ us.length = n ∧ H0 x = none ∧ H0 dx = none ∧ dx ≠ x ∧
  H = upd (upd H0 dx (.own x)) x (.ins (m.cl k) dx []) ∧ match C f ds S with
  | .ok (.own o) S' => ∀ c' H', Step c H0 c' H' → Wd m c' H' S' → RRv m c' H' H0 (.ref x) (.own o) → Q .non H'
  | .exc k' es S' => ∀ c' H' cls d, Step c H0 c' H' → Wd m c' H' S' → ExR m c' cls d k' es → E cls d H'
  | _ => False

abbrev FnX (m : Pm) (mg : Str → Option Value) (base : Heap) (k : Nat) (fa : Addr) (fd : FuncData) (ps : List Str) (sp : Sp) : Prop := FnOk m.P m.w m.K mg base (L2.CX m.P m.w) k fa fd ps sp
/-- what the written part says of the class -/
structure SupF (K : PySem.W.Frag) (file : Str) (C fI : Addr) (body : List Stmt) (scope : Scope) (fd : FuncData) : Prop where
  T : OexC K C
  ini : PySem.W.findIn K (.ref C) "__init__" = some (some (.ref fI))
  tyI : PySem.W.typeIn K (.ref fI) = some (.type "function")
  fn : ∃ (oc : Value) (od : Option Addr) (osl : Array (Option Value)) (name qual : Str) (params : Arguments) (dV kV doc pm ct : Value) (an : Option Addr) (cda cc : Addr) (ccl : Value) (cdd : Option Addr) (vs : Array Value) (ccs : Array (Option Value)) (tf : Tok) (cl : Value) (cld : Option Addr) (csl : Array (Option Value)) (ar : Arg),
    fd = PySem.W.ksFn name qual params body scope dV kV doc pm an (.ref cda) ct cc ∧ K.lookup fI = some ⟨oc, od, .func fd, osl⟩ ∧ PySem.W.codeIn K (.ref cda) qual = true ∧ K.lookup cda = some ⟨ccl, cdd, .fields vs, ccs⟩ ∧ vs[2]? = some (.str file tf) ∧
    K.lookup cc = some ⟨cl, cld, .cell (some (.ref C)), csl⟩ ∧ (params.posonlyargs ++ params.args).head? = some ar ∧ ar.arg = "self"
  bnd : Binds K fd ["self"] []
  sup : PySem.W.ks_superIn K C C "__init__" = some (some (.builtin "ValueError.__init__"))
  sVE : PySem.W.subIn K (.ref C) (.type "ValueError") = some true
  mC : PySem.W.mroIn K C (.ref C) = some true
  opq : PySem.W.nsIn K cStatics "thirdparty.any" = some none
  kS : scope.names.lookup ("super" : Str) = some .globalImplicit
  kC : scope.names.lookup ("__class__" : Str) = some .free
  kX : scope.names.lookup ("self" : Str) = some .local
  cells : ∀ x ∈ scope.names, x.2 ≠ .cell
  co : scope.isCoroutine = false
  gen : scope.isGenerator = false
  kd : scope.kind = .function

/-- types' names: int, bool, str, tuple, list, dict -/
def tyS : Nat → Option String
  | 0 => some "int" | 1 => some "bool" | 2 => some "str" | 3 => some "tuple" | 4 => some "list" | 5 => some "dict" | _ => none

def tyNames : List String := ["NoneType", "int", "bool", "str", "tuple", "list", "dict"]
structure ClsF (m : Pm) (n : Nm) (T : Tab) (c : Nat) : Prop where
  cls : Cls m.K (m.cl c)
  no : ∀ x ∈ m.fn c, NoAttr m.K (m.cl c) x
  nd : (m.fn c).Nodup
  len : (m.fn c).length < 1000
  kt : ∀ t s, tyS t = some s → PySem.W.kitOne m.K (.ref (m.cl c)) (.type s) = some false
  tk : ∀ s ∈ tyNames, PySem.W.kitOne m.K (.type s) (.ref (m.cl c)) = some false ∧ PySem.W.notFirst m.K (m.cl c) (.type s) = true
  kk : ∀ c', T.cls c' = true → PySem.W.kitOne m.K (.ref (m.cl c')) (.ref (m.cl c)) = some (c' == c) ∧ PySem.W.notFirst m.K (m.cl c) (.ref (m.cl c')) = true
  ha : PySem.W.findIn m.K (.ref (m.cl c)) "__class__" = some (some (.builtin "object.__class__"))
  hm : PySem.W.mroIn m.K (m.cl c) (.type "object") = some true
/-- how many arguments are taken -/
def Ar (C : Calls) (f n : Nat) : Prop := ∀ ds S, C f ds S = .bad ∨ ds.length = n
structure Facts (m : Pm) (mg : Str → Option Value) (base : Heap) (n : Nm) (T : Tab) (C : Calls) (k : Nat) : Prop where
  free : ∀ x ∈ n.free, mg x = none
  gl : ∀ g d, T.gl g = some d → ∃ u v, mg (n.gn g) = some u ∧ RelV v u ∧ ∀ c, RD m c v d
  fn : ∀ f x, n.kd f = some (.glob x) → ∃ fa fd ps, mg x = some (.ref fa) ∧ PySem.W.keepIn m.K (.ref fa) = true ∧ Binds m.K fd ps [] ∧ Ar C f ps.length ∧ FnX m mg base k fa fd ps (spF m C f ps.length)
  meth : ∀ f c x, n.kd f = some (.meth c x) → ∃ fa fd ps, BMeth m.K (m.cl c) x fa ∧ Cls m.K (m.cl c) ∧ x ∉ m.fn c ∧ Binds m.K fd ps [] ∧ Ar C f ps.length ∧ FnX m mg base k fa fd ps (spF m C f ps.length)
  ctor : ∀ f c, n.kd f = some (.ctor c) → ∃ fa fd us, mg (n.cn c) = some (.ref (m.cl c)) ∧ Mk m.K (m.cl c) fa ∧ Binds m.K fd us [] ∧ 0 < us.length ∧ Ar C f (us.length - 1) ∧ FnX m mg base k fa fd us (spK m C f (us.length - 1) c)
  prop : ∀ f c x, n.kd f = some (.prop c x) → T.cls c = true ∧ ∃ p fa fd ps, PropOf m.K (m.cl c) x p fa ∧ Binds m.K fd ps [] ∧ Ar C f ps.length ∧ FnX m mg base k fa fd ps (spF m C f ps.length)
  eq : ∀ f c, n.kd f = some (.eq c) → T.cls c = true ∧ ∃ fa fd ps, PySem.W.findIn m.K (.ref (m.cl c)) "__eq__" = some (some (.ref fa)) ∧ PySem.W.isFn m.K (.ref fa) = true ∧ Binds m.K fd ps [] ∧ Ar C f ps.length ∧ FnX m mg base k fa fd ps (spF m C f ps.length)
  cls : ∀ c, T.cls c = true → ClsF m n T c ∧ mg (n.cn c) = some (.ref (m.cl c))
  exc : ∀ k c b, T.sub k c = some b → L2.ExcC m.K (m.cl k) ∧ PySem.W.kitOne m.K (.ref (m.cl k)) (.ref (m.cl c)) = some b ∧ PySem.W.exmOne m.K (.ref (m.cl k)) (.ref (m.cl c)) = some b
  nexc : ∀ c, n.exc c = true → mg (n.cn c) = some (.ref (m.cl c))
  mk0 : ∀ c, n.mk0 c = true → m.fn c = [] ∧ mg (n.cn c) = some (.ref (m.cl c)) ∧ ∃ (fI : Addr) (scope : Scope) (fd : FuncData) (x : Str) (j : Nat) (p0 p1 p2 p3 p4 p5 : Pos), (p2.endLine == p4.line) = true ∧
    SupF m.K m.P.main.file (m.cl c) fI [.Expr (.Call (.Attribute (.Call (.Name "super" p0) [] [] p1) "__init__" p2) [.Constant (.str x) j p3] [] p4) p5] scope fd
  noSup : mg "super" = none ∧ (m.P.main.scope.names.lookup ("super" : Str)).isSome = false
  ncls : ∀ c, n.cls c = true → T.cls c = true
  kobj : PySem.W.specialIn m.K (.builtin "object.__class__") "__get__" = some (some (.builtin "getset_descriptor.__get__")) ∧ PySem.W.takesIn m.K (.builtin "object.__class__") = some true

/-- a context -/
structure CtxE (X : Cx) (k : Nat) (W : WX) (N : List Str) (sc : Scope) (pin : Pin) (hot : Bool) : Prop where
  hN : X.N = N
  nd : List.Nodup (N : List Str)
  tk : Takes X W
  sees : ∀ x kd, sc.names.lookup x = some kd → X.env.scope.names.lookup x = some kd ∨ (kd = .free ∧ X.env.scope.names.lookup x = some .cell)
  un : X.A.units + 70 < cLine
  cool : hot = false → X.calm = true ∧ Room (k + 1) X.A ∧ pin = noPin
  pn : ∀ a cls d, pin a cls d → ∃ oe, (a, oe) ∈ X.pn ∧ Zc cls d oe ∧ ∃ vs, oe.data = .fields vs
  sto : ∀ x, (sc.names.lookup x = some .local ∨ sc.names.lookup x = some .cell) → X.fn x = true ∨ X.env.scope.names.lookup x = some .local
section
variable {X : Cx} {k : Nat} {W : WX} {N : List Str} {sc : Scope} {pin : Pin} {hot : Bool} {x : Str}
def okN (x : Str) : Bool := !(x == ("__debug__" : Str)) && !(x == ("__classdict__" : Str)) && !(x == ("__name__" : Str))
theorem okN_of (h : okN x = true) : (x == ("__debug__" : Str)) = false ∧ (x == ("__classdict__" : Str)) = false ∧ x ≠ "__name__" := by
  unfold okN at h
  simp only [Bool.and_eq_true, Bool.not_eq_true'] at h
  exact ⟨h.1.1, h.1.2, fun e => by rw [e] at h; simp at h⟩
def visB (sc : Scope) (x : Str) : Bool := match sc.names.lookup x with
  | some .local => true
  | some .cell => true
  | some .free => true
  | _ => false
def glB (sc : Scope) (x : Str) : Bool := match sc.names.lookup x with
  | some .globalImplicit => true
  | _ => false
def locB (sc : Scope) (x : Str) : Bool := match sc.names.lookup x with
  | some .local => true
  | some .cell => true
  | _ => false
theorem CtxE.vis (cx : CtxE X k W N sc pin hot) (h : visB sc x = true) : Vis X.env.scope x := by
  unfold visB at h
  split at h
  · rename_i e; rcases cx.sees _ _ e with h | ⟨h, _⟩
    · exact .inl h
    · cases h
  · rename_i e; rcases cx.sees _ _ e with h | ⟨h, _⟩
    · exact .inr (.inl h)
    · cases h
  · rename_i e; rcases cx.sees _ _ e with h | ⟨_, h⟩
    · exact .inr (.inr h)
    · exact .inr (.inl h)
  · cases h
theorem CtxE.gl (cx : CtxE X k W N sc pin hot) (h : glB sc x = true) : Gl X x := by
  unfold glB at h
  split at h
  · rename_i e; rcases cx.sees _ _ e with h | ⟨h, _⟩
    · exact h
    · cases h
  · cases h
theorem CtxE.loc (cx : CtxE X k W N sc pin hot) (h : locB sc x = true) : Loc X.env.scope x := by
  unfold locB at h
  split at h
  · rename_i e; rcases cx.sees _ _ e with h | ⟨h, _⟩
    · exact .inl h
    · cases h
  · rename_i e; rcases cx.sees _ _ e with h | ⟨h, _⟩
    · exact .inr h
    · cases h
  · cases h
end
/-- an expression that isTrue tells as any value -/
def plainT : Expr → Bool
  | .UnaryOp .Not _ _ => false
  | .BoolOp _ _ _ => false
  | .IfExp _ _ _ _ => false
  | .Compare _ _ _ _ => false
  | _ => true
theorem isTrue_plainT : ∀ {e : Expr} {env : PySem.Env} {whole : Sem Value}, plainT e = true → PySem.isTrue e env whole = (do let v ← whole; standAt e.pos; holding [v] (truthy v)) := by
  intro e env whole h
  cases e <;> first | rfl | (cases h; done) | skip
  all_goals (rename_i op a p; cases op <;> first | rfl | (cases h; done))
def notStar : Expr → Bool
  | .Starred _ _ => false
  | _ => true
theorem star_cons {e : Expr} {es : List Expr} {env : PySem.Env} (h : notStar e = true) : starEach (e :: es) env = (false, eval e env) :: starEach es env := by
  cases e <;> first | rfl | (cases h; done)
theorem star_none : ∀ {es : List Expr} {env : PySem.Env} {pos : Pos}, es.all notStar = true → (backTo pos (starEach es env)).any (·.1) = false
  | [], _, _, _ => rfl
  | e :: es, env, pos, h => by
    rw [List.all_cons, Bool.and_eq_true] at h
    rw [star_cons h.1]
    have ih := star_none (env := env) (pos := pos) h.2
    first
      | exact ih
      | (show (false || (backTo pos (starEach es env)).any (·.1)) = false; rw [ih]; rfl)
def baseOk : Expr → Bool
  | .Call (.Name id _) [] [] _ => !(id == ("super" : Str))
  | _ => true
theorem base_ok {e : Expr} {f : Str} {env : PySem.Env} {t : Sem Value} (h : baseOk e = true) : attributeBase e f env t = t := by
  unfold attributeBase
  split
  · rename_i id _ _ 
    have h : (!(id == ("super" : Str))) = true := h
    have h' : (id == ("super" : Str)) = false := by simpa using h
    have h2 : (id != ("super" : Str)) = true := by simp [bne, h']
    rw [h2]
    simp
  · rfl
end R

set_option maxHeartbeats 1000000
/-! Slots stored to; what is walked; comprehensions. -/
namespace R
open PySem L2

section
variable {m : Pm} {c c₀ c₁ c₂ : Cfg} {H H₀ H₁ H₂ He : Hp} {S S₁ : Store} {p me : Addr} {pin : Pin} {ρ : REnv} {σ : St} {v : V} {d : D}
theorem EnvR.set (E : EnvR m c H pin me He ρ σ) (h : RD m c v d) (i : Nat) : EnvR m c H pin me He (ρ.set i (.val d)) (σ.set i (some v)) := by
  have hl := E.len
  refine ⟨by simp [hl], fun j s e => ?_, fun j k o o' q hn e1 e2 e3 e4 => ?_⟩
  · by_cases hj : i = j
    · subst hj
      obtain ⟨hlt, _⟩ := List.getElem?_eq_some_iff.mp e
      rw [List.length_set] at hlt
      rw [List.getElem?_set_self hlt] at e
      cases e
      rw [List.getElem?_set_self (by rw [← hl]; exact hlt)]
      exact .val h
    · rw [List.getElem?_set_ne hj] at e
      rw [List.getElem?_set_ne hj]
      exact E.at_ j s e
  · have key : ∀ {j : Nat} {o : O}, (ρ.set i (.val d))[j]? = some (.own o) → i ≠ j ∧ ρ[j]? = some (.own o) := fun {j o} e => by
      by_cases hj : i = j
      · subst hj
        obtain ⟨hlt, _⟩ := List.getElem?_eq_some_iff.mp e
        rw [List.length_set] at hlt
        rw [List.getElem?_set_self hlt] at e
        cases e
      · rw [List.getElem?_set_ne hj] at e
        exact ⟨hj, e⟩
    obtain ⟨n1, f1⟩ := key e1
    obtain ⟨n2, f2⟩ := key e2
    rw [List.getElem?_set_ne n1] at e3
    rw [List.getElem?_set_ne n2] at e4
    exact E.nd j k o o' q hn f1 f2 e3 e4
theorem EnvR.unset (E : EnvR m c H pin me He ρ σ) (i : Nat) (x : Option V) : EnvR m c H pin me He (ρ.set i .un) (σ.set i x) := by
  have hl := E.len
  refine ⟨by simp [hl], fun j s e => ?_, fun j k o o' q hn e1 e2 e3 e4 => ?_⟩
  · by_cases hj : i = j
    · subst hj
      obtain ⟨hlt, _⟩ := List.getElem?_eq_some_iff.mp e
      rw [List.length_set] at hlt
      rw [List.getElem?_set_self hlt] at e
      cases e
      exact .un
    · rw [List.getElem?_set_ne hj] at e
      rw [List.getElem?_set_ne hj]
      exact E.at_ j s e
  · have key : ∀ {j : Nat} {o : O}, (ρ.set i .un)[j]? = some (.own o) → i ≠ j ∧ ρ[j]? = some (.own o) := fun {j o} e => by
      by_cases hj : i = j
      · subst hj
        obtain ⟨hlt, _⟩ := List.getElem?_eq_some_iff.mp e
        rw [List.length_set] at hlt
        rw [List.getElem?_set_self hlt] at e
        cases e
      · rw [List.getElem?_set_ne hj] at e
        exact ⟨hj, e⟩
    obtain ⟨n1, f1⟩ := key e1
    obtain ⟨n2, f2⟩ := key e2
    rw [List.getElem?_set_ne n1] at e3
    rw [List.getElem?_set_ne n2] at e4
    exact E.nd j k o o' q hn f1 f2 e3 e4
theorem EnvR.wipe (E : EnvR m c H pin me He ρ σ) : ∀ is : List Nat, EnvR m c H pin me He (wipeE ρ is) (L2.wipe σ is)
  | [] => E
  | i :: is => (EnvR.wipe E is).unset i none
def setAll (σ : St) : List Nat → List V → St
  | i :: is, v :: vs => setAll (σ.set i (some v)) is vs
  | _, _ => σ
theorem EnvR.setAll : ∀ {is : List Nat} {vs : List V} {ds : List D} {ρ : REnv} {σ : St}, EnvR m c H pin me He ρ σ → RDs m c vs ds → EnvR m c H pin me He (putAll ρ is ds) (R.setAll σ is vs)
  | [], _, _, _, _, E, .nil => E
  | [], _, _, _, _, E, .cons _ _ => E
  | i :: is, _, _, _, _, E, .nil => E
  | i :: is, _, _, _, _, E, .cons h t => EnvR.setAll (is := is) (E.set h i) t
theorem wipe_setAll {σ : St} {vs : List Nat} : ∀ {is : List Nat} {us : List V} {τ : St}, (∀ i ∈ is, i ∈ vs) → L2.wipe τ vs = L2.wipe σ vs → L2.wipe (R.setAll τ is us) vs = L2.wipe σ vs
  | [], [], _, _, h => h
  | [], _ :: _, _, _, h => h
  | _ :: _, [], _, _, h => h
  | i :: is, u :: us, τ, hi, h => by
    refine wipe_setAll (is := is) (us := us) (fun j hj => hi j (List.mem_cons_of_mem _ hj)) ?_
    rw [← h]
    exact wipe_setAll.wipe_set (hi i List.mem_cons_self)
where
  wipe_set {τ : St} {vs : List Nat} {i : Nat} {x : Option V} (h : i ∈ vs) : L2.wipe (τ.set i x) vs = L2.wipe τ vs := by
    induction vs with
    | nil => cases h
    | cons a vs ih =>
      show (L2.wipe (τ.set i x) vs).set a none = (L2.wipe τ vs).set a none
      by_cases e : i ∈ vs
      · rw [ih e]
      · have e' : i = a := (List.mem_cons.mp h).resolve_right e
        subst e'
        rw [wipe_comm e, List.set_set]
  wipe_comm {τ : St} {vs : List Nat} {i : Nat} {x : Option V} (h : i ∉ vs) : L2.wipe (τ.set i x) vs = (L2.wipe τ vs).set i x := by
    induction vs with
    | nil => rfl
    | cons a vs ih =>
      show (L2.wipe (τ.set i x) vs).set a none = ((L2.wipe τ vs).set a none).set i x
      rw [ih fun q => h (List.mem_cons_of_mem _ q)]
      exact List.set_comm _ _ fun q => h (q ▸ List.mem_cons_self)
theorem wipe_idem (σ : St) (vs : List Nat) : L2.wipe (L2.wipe σ vs) vs = L2.wipe σ vs := by
  induction vs with
  | nil => rfl
  | cons a vs ih =>
    show (L2.wipe ((L2.wipe σ vs).set a none) vs).set a none = (L2.wipe σ vs).set a none
    by_cases e : a ∈ vs
    · rw [wipe_setAll.wipe_set e, ih]
    · rw [wipe_setAll.wipe_comm e, ih, List.set_set]

/-- an own object that changes, new since H₀ -/
theorem step_mut {o : HO} (s : Step c₀ H₀ c H) (w : Wd m c H S) (f : H₀ p = none) (nG : c.G p = none) (nA : p ∉ c.A) : Step c₀ H₀ c (upd H p o) ∧ Wd m c (upd H p o) S := by
  refine ⟨⟨s.G, s.A, fun q u hq hn => ?_, s.fresh, fun q hq => ?_⟩, ⟨fun q u hq => ?_, w.len, fun n a ob h1 h2 => (w.obj n a ob h1 h2).upd (fun (e : a = p) => nA (by rw [← e]; exact List.mem_of_getElem? h1)), w.off, w.nd⟩⟩
  · rw [upd_ne (ne_of_none hq f)]; exact s.frame q u hq hn
  · by_cases e : q = p
    · rw [e]; exact f
    · rw [upd_ne e] at hq; exact s.dom q hq
  · rw [upd_ne (fun e : q = p => by rw [e, nG] at hq; cases hq)]; exact w.le _ _ hq

/-- the walk J hands out the values xs -/
def Walks (m : Pm) (c : Cfg) (H : Hp) (J : It) (xs : List D) : Prop := ∀ (i : Nat) c2 H2 S, Step c H c2 H2 → Wd m c2 H2 S →
  (∀ d, xs[i]? = some d → J.go i H2 ∧ ∀ x H', J.yld i H2 x H' → ∃ c3, Step c2 H2 c3 H' ∧ Wd m c3 H' S ∧ RD m c3 x d) ∧ (xs.length ≤ i → J.stop i H2)
theorem walks_l {vs : List V} {ds : List D} (h : H p = some (.lst vs)) (n : p ∉ c.A) (r : RDs m c vs ds) : Walks m c H (Itl m.K p) ds := by
  intro i c2 H2 S s w
  have e := s.frame _ _ h n
  have r2 := r.le s.le
  refine ⟨fun d hd => ?_, fun hi => ⟨vs, SqL.of e, by rw [r.length]; exact hi⟩⟩
  obtain ⟨v, hv, rv⟩ := r2.get hd
  refine ⟨⟨vs, v, SqL.of e, hv⟩, fun x H' y => ?_⟩
  obtain ⟨rfl, y⟩ := y
  have := y vs (SqL.of e)
  rw [hv] at this
  cases this
  exact ⟨c2, Step.refl _ _, w, rv⟩
theorem walks_t {vs : List V} {ds : List D} (w0 : Wd m c H S₁) (h : SqT m.K c.G p vs) (r : RDs m c vs ds) : Walks m c H (Itt m.K p) ds := by
  intro i c2 H2 S s w
  have e : SqT m.K H2 p vs := sqT_mono w.le (sqT_mono s.G h)
  have r2 := r.le s.le
  refine ⟨fun d hd => ?_, fun hi => ⟨vs, e, by rw [r.length]; exact hi⟩⟩
  obtain ⟨v, hv, rv⟩ := r2.get hd
  refine ⟨⟨vs, v, e, hv⟩, fun x H' y => ?_⟩
  obtain ⟨rfl, y⟩ := y
  have := y vs e
  rw [hv] at this
  cases this
  exact ⟨c2, Step.refl _ _, w, rv⟩
theorem walks_r {lo : Int} {n : Nat} : Walks m c H (Itr lo n) ((List.range n).map fun (i : Nat) => D.int (lo + i)) := by
  intro i c2 H2 S s w
  refine ⟨fun d hd => ?_, fun hi => by
    show n ≤ i
    simpa using hi⟩
  rw [List.getElem?_map] at hd
  have hi : i < n := by
    by_cases h : i < n
    · exact h
    · rw [List.getElem?_eq_none (by simpa using h)] at hd; cases hd
  rw [List.getElem?_range hi] at hd
  cases hd
  refine ⟨hi, fun x H' y => ?_⟩
  obtain ⟨rfl, rfl⟩ := y
  exact ⟨c2, Step.refl _ _, w, .int _⟩
end

/-- a list or a tuple walked -/
def iSeq (K : PySem.W.Frag) (tl : TE) : TI := fun σ H R => tl σ H fun x H1 => ∃ a, x = .ref a ∧ (((∃ xs, SqL K H1 a xs) ∧ R (Itl K a) H1) ∨ ((∃ xs, SqT K H1 a xs) ∧ R (Itt K a) H1))
theorem pi_seq {X : Cx} {tg l : Expr} {tl : TE} (hl : PE X l tl) : PI X tg l (iSeq X.K tl) := by
  constructor
  intro pl s τ G R J w
  apply thn (hl.run pl s τ G _ J w)
  rintro u s1 ⟨v, G1, J1, rel, at_, rfl, both⟩
  cases rel
  obtain ⟨⟨vs, known⟩, goal⟩ | ⟨⟨vs, known⟩, goal⟩ := both
  · obtain ⟨_, _, stands, _⟩ := J1.list known
    apply wpAny_pyIter_list stands.isList
    exact pi_one (tk := s1.toks) J1 _ (turn_list at_ _) ⟨_, Heap.get?_push_size _ rfl, rfl, rfl⟩ goal
  · obtain ⟨its, _, stands, _⟩ := J1.tuple known
    refine wpAny_pyIter_tuple (show s1.heap.IsTuple at_ its.toArray from stands) ?_
    exact pi_one (tk := s1.toks) J1 _ (turn_tuple at_ _) ⟨_, Heap.get?_push_size _ rfl, rfl, rfl⟩ goal
theorem PI.imp {X : Cx} {tg l : Expr} {w w' : TI} (h : PI X tg l w) (i : ∀ σ H R, w' σ H R → w σ H R) : PI X tg l w' := ⟨fun pins s σ H R I q => h.run pins s σ H R I (i σ H R q)⟩

section
variable (T : Tab) (C : Calls)
/-- what is given is walked: R is asked of every walk of its items -/
def wI (m : Pm) (pin : Pin) (W : WX) (it : I) : TI := fun σ H R => ∃ c ρ S me He, EnvR m c H pin me He ρ σ ∧ Wd m c H S ∧ match evI T C it ρ S with
  | .ok xs S1 => ∀ c1 H1 J, Step c H c1 H1 → Wd m c1 H1 S1 → Walks m c1 H1 J xs → R J H1
  | .exc k ds S1 => ∀ c' H' cls d, Step c H c' H' → Wd m c' H' S1 → ExR m c' cls d k ds → W cls d σ H'
  | .bad => False
end
theorem wI_seq {T : Tab} {C : Calls} {m : Pm} {pin : Pin} {W : WX} {it : E} {σ : St} {H : Hp} {R : It → Hp → Prop} (h : wI T C m pin W (.seq it) σ H R) : iSeq m.K (tI T C m pin W it) σ H R := by
  obtain ⟨c, ρ, S, me, He, E, w, h⟩ := h
  refine ⟨c, ρ, S, me, He, E, w, ?_⟩
  unfold evI at h
  cases q : evE T C it ρ S with
  | bad => rw [q] at h; exact h
  | exc k ds S1 => rw [q] at h; exact h
  | ok r S1 =>
    rw [q, Out.bind_ok] at h
    cases hx : r.look.bind D.seq with
    | none => simp only [hx] at h
    | some xs =>
    simp only [hx] at h
    intro c' H' v s w' x
    cases x with
    | val x =>
      rename_i d
      have hx : D.seq d = some xs := hx
      cases d with
      | lst ys =>
        cases hx
        cases x with
        | lst h1 h2 => exact ⟨_, rfl, .inl ⟨⟨_, SqL.of (w'.le _ _ h1)⟩, h c' H' _ s w' (walks_l (w'.le _ _ h1) (fun hm => by rw [w'.off _ hm] at h1; cases h1) h2)⟩⟩
      | tup ys =>
        cases hx
        cases x with
        | tup h1 h2 => exact ⟨_, rfl, .inr ⟨⟨_, sqT_mono w'.le h1⟩, h c' H' _ s w' (walks_t w' h1 h2)⟩⟩
      | _ => cases hx
    | own h1 h2 h3 h4 =>
      cases h1 with
      | lst a b => cases hx; exact ⟨_, rfl, .inl ⟨⟨_, SqL.of a⟩, h c' H' _ s w' (walks_l a h3 b)⟩⟩
      | dct a b => cases hx
      | ins a b d => cases hx
    | tmp h1 h2 h3 =>
      cases h1 with
      | lst a b => cases hx; exact ⟨_, rfl, .inl ⟨⟨_, SqL.of a⟩, h c' H' _ s w' (walks_l a h3 b)⟩⟩
      | dct a b => cases hx
      | ins a b d => cases hx
theorem wI_seqF {T : Tab} {C : Calls} {m : Pm} {pin : Pin} {W : WX} {it : E} {σ : St} {H : Hp} {R : It → Hp → Prop} (h : wI T C m pin W (.seqF it) σ H R) : iSeq m.K (tI T C m pin W it) σ H R := by
  obtain ⟨c, ρ, S, me, He, E, w, h⟩ := h
  refine ⟨c, ρ, S, me, He, E, w, ?_⟩
  unfold evI at h
  cases q : evE T C it ρ S with
  | bad => rw [q] at h; exact h
  | exc k ds S1 => rw [q] at h; exact h
  | ok r S1 =>
    rw [q, Out.bind_ok] at h
    cases hx : r.frz.bind D.seq with
    | none => simp only [hx] at h
    | some xs =>
    simp only [hx] at h
    intro c' H' v s w' x
    cases hf : r.frz with
    | none => rw [hf] at hx; cases hx
    | some d =>
    rw [hf] at hx
    obtain ⟨c2, s2, w2, x2, l2⟩ := x.frz w' s hf
    have hx : D.seq d = some xs := hx
    cases d with
    | lst ys =>
      cases hx
      cases x2 with
      | lst h1 h2 => exact ⟨_, rfl, .inl ⟨⟨_, SqL.of (w2.le _ _ h1)⟩, h c2 H' _ s2 w2 (walks_l (w2.le _ _ h1) (fun hm => by rw [w2.off _ hm] at h1; cases h1) h2)⟩⟩
    | tup ys =>
      cases hx
      cases x2 with
      | tup h1 h2 => exact ⟨_, rfl, .inr ⟨⟨_, sqT_mono w2.le h1⟩, h c2 H' _ s2 w2 (walks_t w2 h1 h2)⟩⟩
    | _ => cases hx
/-- for a range's ends: a list of values -/
def pA (T : Tab) (C : Calls) (m : Pm) (pin : Pin) (W : WX) (es : Es) (ok : List D → Bool) : TA := tL T C m pin W es
theorem wI_rng1 {T : Tab} {C : Calls} {m : Pm} {pin : Pin} {W : WX} {a : E} {σ : St} {H : Hp} {R : It → Hp → Prop} (h : wI T C m pin W (.rng1 a) σ H R) : iRng1 (tL T C m pin W (.cons a .nil)) σ H R := by
  obtain ⟨c, ρ, S, me, He, E, w, h⟩ := h
  refine ⟨c, ρ, S, me, He, E, w, ?_⟩
  unfold evI at h
  unfold evL
  cases q : evE T C a ρ S with
  | bad => rw [q] at h; exact h
  | exc k ds S1 => rw [q] at h; exact h
  | ok r S1 =>
    rw [q, Out.bind_ok] at h
    rw [Out.bind_ok]
    cases r with
    | own _ => exact h.elim
    | tmp _ => exact h.elim
    | val d =>
    cases d with
    | int n =>
      simp only at h
      by_cases hn : (decide (-100000 ≤ n) && decide (n ≤ 100000)) = true
      · rw [if_pos hn] at h
        unfold evL
        simp only [Rv.frz, Out.bind_ok]
        simp only [Bool.and_eq_true, decide_eq_true_eq] at hn
        intro c1 H1 vs s1 w1 x1
        cases x1 with
        | cons x1 x2 =>
        cases x1; cases x2
        exact ⟨n, rfl, by omega, by omega, h c1 H1 _ s1 w1 walks_r⟩
      · rw [if_neg hn] at h; exact h.elim
    | _ => exact h.elim
theorem wI_rng2 {T : Tab} {C : Calls} {m : Pm} {pin : Pin} {W : WX} {a b : E} {σ : St} {H : Hp} {R : It → Hp → Prop} (h : wI T C m pin W (.rng2 a b) σ H R) : iRng2 (tL T C m pin W (.cons a (.cons b .nil))) σ H R := by
  obtain ⟨c, ρ, S, me, He, E, w, h⟩ := h
  refine ⟨c, ρ, S, me, He, E, w, ?_⟩
  unfold evI at h
  unfold evL
  cases q : evE T C a ρ S with
  | bad => rw [q] at h; exact h
  | exc k ds S1 => rw [q] at h; exact h
  | ok r S1 =>
    rw [q, Out.bind_ok] at h
    rw [Out.bind_ok]
    cases r with
    | own _ => exact h.elim
    | tmp _ => exact h.elim
    | val d =>
    cases d with
    | int i =>
      unfold evL
      simp only [Rv.frz] at h ⊢
      cases q2 : evE T C b ρ S1 with
      | bad => rw [q2] at h; exact h.elim
      | exc k ds S2 => rw [q2] at h; exact h
      | ok r2 S2 =>
      rw [q2, Out.bind_ok] at h
      rw [Out.bind_ok]
      cases r2 with
      | own _ => exact h.elim
      | tmp _ => exact h.elim
      | val d2 =>
      cases d2 with
      | int n =>
        simp only at h
        by_cases hn : (decide (-100000 ≤ i) && decide (i ≤ 100000) && decide (-100000 ≤ n) && decide (n ≤ 100000)) = true
        · rw [if_pos hn] at h
          unfold evL
          simp only [Rv.frz, Out.bind_ok]
          simp only [Bool.and_eq_true, decide_eq_true_eq] at hn
          intro c1 H1 vs s1 w1 x1
          cases x1 with
          | cons x1 x2 =>
          cases x2 with
          | cons x2 x3 =>
          cases x1; cases x2; cases x3
          exact ⟨i, n, rfl, by omega, h c1 H1 _ s1 w1 walks_r⟩
        · rw [if_neg hn] at h; exact h.elim
      | _ => exact h.elim
    | _ => exact h.elim
end R

set_option maxHeartbeats 2000000
/-! Comprehensions of any number of clauses: the machine's side. -/
namespace R
open PySem PySem.Spec PyProof.Rows L2
/-- one turn of a clause -/
def turnOf (e : Expr) (d : Nat) (tg iter : Expr) (ifs : List Expr) (it acc : Value) (env : PySem.Env) (code : Sem PySem.Fin → Sem PySem.Fin) : Sem PySem.Fin := do
  standAt iter.pos
  match ← pyNext it with
  | none => pure (.done .next)
  | some u =>
    letOwnedTupleGo tg it u
    assign tg env u
    let mut ok := true
    for c in ifs do
      if ok then ok ← isTrue c env (eval c env)
    if ok then code (again (.compLoop e d it acc env)) else again (.compLoop e d it acc env)
/-- the next clause begins -/
def nextOf (e : Expr) (d : Nat) (iter : Expr) (acc : Value) (env : PySem.Env) (k : Sem PySem.Fin) : Sem PySem.Fin := do
  let x ← eval iter env
  standAt iter.pos
  let x ← foldedSetIterable iter env x
  let _ ← runOwn (.compStart e d (← holding [x] (pyIter x)) acc env) env
  k
def emitL (elt : Expr) (acc : Value) (env : PySem.Env) : Sem Unit := do let _ ← call (.builtin "list.append") [acc, ← eval elt env]
def emitD (k v : Expr) (D : Addr) (env : PySem.Env) : Sem Unit := do
  let kv ← eval k env
  let vv ← holding [kv] (eval v env)
  standAt { k.pos with endLine := v.pos.endLine, endCol := v.pos.endCol }
  holding [kv, vv] (dictSet D kv vv)
section
variable {elt k v t0 i0 t1 i1 : Expr} {f0 f1 : List Expr} {gs : List Comprehension} {scope : Scope} {pos : Pos} {it acc : Value} {env : PySem.Env} {d : Nat} {D : Addr}
theorem turnL_last (h : gs[d]? = some ⟨t0, i0, f0, 0⟩) (h1 : gs[d + 1]? = none) : compTurn (.ListComp elt gs scope pos) d it acc env = turnOf (.ListComp elt gs scope pos) d t0 i0 f0 it acc env (fun k => do emitL elt acc env; k) := by
  unfold compTurn turnOf emitL
  simp only [h, h1]
  rfl
theorem turnL_more (h : gs[d]? = some ⟨t0, i0, f0, 0⟩) (h1 : gs[d + 1]? = some ⟨t1, i1, f1, 0⟩) : compTurn (.ListComp elt gs scope pos) d it acc env = turnOf (.ListComp elt gs scope pos) d t0 i0 f0 it acc env (nextOf (.ListComp elt gs scope pos) (d + 1) i1 acc env) := by
  unfold compTurn turnOf nextOf
  simp only [h, h1]
  rfl
theorem turnD_last (h : gs[d]? = some ⟨t0, i0, f0, 0⟩) (h1 : gs[d + 1]? = none) : compTurn (.DictComp k v gs scope pos) d it (.ref D) env = turnOf (.DictComp k v gs scope pos) d t0 i0 f0 it (.ref D) env (fun r => do emitD k v D env; r) := by
  unfold compTurn turnOf emitD
  simp only [h, h1]
  rfl
theorem turnD_more (h : gs[d]? = some ⟨t0, i0, f0, 0⟩) (h1 : gs[d + 1]? = some ⟨t1, i1, f1, 0⟩) : compTurn (.DictComp k v gs scope pos) d it (.ref D) env = turnOf (.DictComp k v gs scope pos) d t0 i0 f0 it (.ref D) env (nextOf (.DictComp k v gs scope pos) (d + 1) i1 (.ref D) env) := by
  unfold compTurn turnOf nextOf
  simp only [h, h1]
  rfl
end
end R
namespace R
open PySem PySem.Spec PyProof.Rows L2
/-- a piece of code with what comes behind it -/
def Does (M : Model) (A : Around) (E : Value → Shared → Prop) (code : Sem PySem.Fin → Sem PySem.Fin) (P : Shared → Prop) (s : Shared) : Prop :=
  ∀ (k : Sem PySem.Fin) (Q : PySem.Fin → Shared → Prop), (∀ s', P s' → wpAny M A k Q E s') → wpAny M A (code k) Q E s
abbrev testsOf (ifs : List Expr) (env : PySem.Env) : Sem Bool := forIn ifs true fun c r => if r = true then do let ok ← isTrue c env (eval c env); pure (ForInStep.yield ok) else pure (ForInStep.yield r)
section
variable {prog : Program} {w : World} {A : Around} {R : Result → Shared → Prop} {s : Shared} {e tg iter : Expr} {ifs : List Expr} {d : Nat} {it acc : Value} {env : PySem.Env} {code : Sem PySem.Fin → Sem PySem.Fin}
theorem cl_loop {E : Value → Shared → Prop} (hE : E = notedBy (model prog w) A env fun x s' => R (.error x) s') (hq : (Code.compLoop e d it acc env).quiet = true) (hu : A.under (.compLoop e d it acc env) = A)
    (hden : (model prog w).den (.compLoop e d it acc env) = (turnOf e d tg iter ifs it acc env code).onRaise (fun x => do noteFrame x env; theTreesLotGoes x)) (I : Nat → Shared → Prop)
    (turn : ∀ n s, I n s → wpAny (model prog w) A (pyNext it) (fun r s1 => match r with
      | none => R (.ok .next) s1
      | some u => wpAny (model prog w) A (letOwnedTupleGo tg it u) (fun _ s2 => wpAny (model prog w) A (assign tg env u) (fun _ s3 => wpAny (model prog w) A (testsOf ifs env) (fun ok s4 =>
          if ok = true then Does (model prog w) A E code (fun s5 => ∃ m, m < n ∧ I m s5) s4 else ∃ m, m < n ∧ I m s4) E s3) E s2) E s1) E s)
    (n : Nat) (h : I n s) : codeAny (model prog w) A (.compLoop e d it acc env) R s := by
  subst hE
  refine codeAny_loop hq I (fun n s hI => ?_) n h
  rw [hu, hden]
  refine wpAny_noted ?_
  unfold turnOf
  refine wpAny_bind (wpAny_standAt (wpAny_bind (wpAny_mono (turn n s hI) (fun r s1 h1 => ?_) fun _ _ z => z)))
  cases r with
  | none => exact wpAny_pure h1
  | some u =>
    refine wpAny_bind (wpAny_mono h1 (fun _ s2 h2 => ?_) fun _ _ z => z)
    refine wpAny_bind (wpAny_mono h2 (fun _ s3 h3 => ?_) fun _ _ z => z)
    refine wpAny_bind (wpAny_mono h3 (fun ok s4 h4 => ?_) fun _ _ z => z)
    cases ok with
    | false => exact wpAny_pure ⟨rfl, h4⟩
    | true => exact h4 _ _ fun s5 h5 => wpAny_pure ⟨rfl, h5⟩
end
end R
namespace R
open PySem PySem.Spec PyProof.Rows L2
theorem Does.mono {M : Model} {A : Around} {E : Value → Shared → Prop} {code : Sem PySem.Fin → Sem PySem.Fin} {P P' : Shared → Prop} {s : Shared} (h : Does M A E code P s) (i : ∀ s', P s' → P' s') : Does M A E code P' s := fun k Q q => h k Q fun s' p => q s' (i s' p)
/-- a clause's begin -/
theorem cl_start {prog : Program} {w : World} {A : Around} {R : Result → Shared → Prop} {s : Shared} {e tg iter : Expr} {ifs : List Expr} {d : Nat} {it acc : Value} {env : PySem.Env}
    (hg : (clausesOf e)[d]? = some ⟨tg, iter, ifs, 0⟩) (hu : A.under (.compStart e d it acc env) = A)
    (hden : (model prog w).den (.compStart e d it acc env) = (PySem.compStart e d it acc env).onRaise (fun x => do noteFrame x env; standAt theWindowsPlace)) (hq : (Code.compLoop e d it acc env).quiet = true)
    (h0 : codeAny (model prog w) A (.compLoop e d it acc env) R s) (self : ∀ (Q : Value → Shared → Prop) (E : Value → Shared → Prop), Q it s → wpAny (model prog w) A (pyIter it) Q E s) :
    codeAny (model prog w) A (.compStart e d it acc env) R s := by
  refine codeAny_of_tree ?_
  rw [hu, hden]
  refine wpAny_notedAt ?_
  unfold PySem.compStart
  simp only [hg]
  show wpAny _ _ (ask >>= _) _ _ s
  refine wpAny_bind (wpAny_askSetting (wpAny_ite ?_))
  split
  · first
      | exact wpAny_bind (wpAny_pure (wpAny_pure ⟨hq, h0⟩))
      | exact wpAny_pure ⟨hq, h0⟩
  · refine wpAny_bind (wpAny_rule (wpAny_bind (wpAny_standAt (wpAny_bind (self _ _ ?_)))))
    exact wpAny_pure ⟨hq, h0⟩
section
variable {Y : Cx} {pins : List (Addr × Obj)} {σ : L2.St} {H : Hp} {s : Shared}
/-- a clause's loop, of its walk: Nx is reached; inn: what a turn does -/
def tLp (g : TG) (tt : TT) (vs : List Nat) (inn : L2.St → Hp → (Hp → Prop) → Prop) (J : It) (σ : L2.St) (H1 : Hp) (Nx : Hp → Prop) : Prop :=
  ∃ W : Nat → Nat → Hp → Prop, (∃ m, W 0 m H1) ∧ ∀ i m H, W i m H → (J.stop i H ∧ Nx H) ∨ (J.go i H ∧ ∃ N2 : Hp → Prop, (∀ H', N2 H' → ∃ m', m' < m ∧ W (i + 1) m' H') ∧
    ∀ x H', J.yld i H x H' → g x (wipe σ vs) H' fun σ2 H2 => wipe σ2 vs = wipe σ vs ∧ tt σ2 H2 fun b H3 => if b = true then inn σ2 H3 N2 else N2 H3)
/-- the code does what inn says, the names ws forgotten -/
def CodeOk (Y : Cx) (code : Sem PySem.Fin → Sem PySem.Fin) (inn : L2.St → Hp → (Hp → Prop) → Prop) (ws : List Nat) : Prop :=
  ∀ (E : Value → Shared → Prop), (∀ x s', Y.xe x s' → E x s') → ∀ (pins : List (Addr × Obj)) (s : Shared) (σ : L2.St) (H : Hp) (N : Hp → Prop), Inv Y pins σ H s → inn σ H N →
    Does (model Y.prog Y.w) Y.A E code (fun s' => ∃ H', Inv Y pins (wipe σ ws) H' s' ∧ N H') s
theorem lp_run {e tg iter : Expr} {ifs : List Expr} {d : Nat} {acc : Value} {code : Sem PySem.Fin → Sem PySem.Fin} {g : TG} {tt : TT} {vs ws : List Nat} {inn : L2.St → Hp → (Hp → Prop) → Prop} {Er : Value → Shared → Prop} {Nx : Hp → Prop}
    {it : Addr} {fp : List Addr} {tn : Nat → Heap → Prop} {J : It} (hc : Y.calm = true) (hq : (Code.compLoop e d (.ref it) acc Y.env).quiet = true) (hu : Y.A.under (.compLoop e d (.ref it) acc Y.env) = Y.A)
    (hden : (model Y.prog Y.w).den (.compLoop e d (.ref it) acc Y.env) = (turnOf e d tg iter ifs (.ref it) acc Y.env code).onRaise (fun x => do noteFrame x Y.env; theTreesLotGoes x))
    (pg : PG Y tg g) (pt : PTs Y ifs tt) (hcode : CodeOk Y code inn ws) (hw : ∀ i ∈ ws, i ∈ vs) (hx : ∀ x s', Y.xe x s' → notedBy (model Y.prog Y.w) Y.A Y.env Er x s')
    (I : Inv Y pins σ H s) (T : Turn Y.prog Y.w Y.K tg J fp it tn) (t0 : tn 0 s.heap) (f0 : ∀ b ∈ fp, FpOk Y pins H b) (h : tLp g tt vs inn J σ H Nx) :
    codeAny (model Y.prog Y.w) Y.A (.compLoop e d (.ref it) acc Y.env) (fun r s' => match r with
      | .ok _ => ∃ H', Inv Y pins (wipe σ vs) H' s' ∧ Nx H'
      | .error x => Er x s') s := by
  obtain ⟨W, ⟨m0, w0⟩, turn⟩ := h
  have up : ∀ {α : Type} {t : Sem α} {Q Q' : α → Shared → Prop} {s : Shared}, wpAny (model Y.prog Y.w) Y.A t Q Y.xe s → (∀ a s, Q a s → Q' a s) → wpAny (model Y.prog Y.w) Y.A t Q' (notedBy (model Y.prog Y.w) Y.A Y.env Er) s := fun h i => wpAny_mono h i hx
  have stat : ∀ {H' : Hp}, (∀ b ∈ fp, H' b = none) → ∀ b ∈ fp, FpOk Y pins H' b := fun hn b hb => ⟨hn b hb, (f0 b hb).2⟩
  refine cl_loop (E := notedBy (model Y.prog Y.w) Y.A Y.env Er) rfl hq hu hden (fun n s' => ∃ i H', Inv Y pins (wipe σ vs) H' s' ∧ tn i s'.heap ∧ (∀ b ∈ fp, H' b = none) ∧ W i n H') ?_ m0
    ⟨0, H, I.weak (wipe_length _ _) (fun j v z => (wipe_some z).1), t0, fun b hb => (f0 b hb).1, w0⟩
  rintro n s1 ⟨i, H1, I1, st1, n1, w1⟩
  rcases turn i n H1 w1 with ⟨stop, nx⟩ | ⟨go, N2, hN2, step⟩
  · refine up (T.done Y rfl rfl rfl hc i pins s1 _ H1 Y.xe I1 (stat n1) st1 stop) fun r s2 ⟨hr, I2⟩ => ?_
    subst hr
    exact ⟨H1, I2, nx⟩
  · refine up (T.item Y rfl rfl rfl hc i pins s1 _ H1 Y.xe I1 (stat n1) st1 go) fun r s2 ⟨u, hr, h2⟩ => ?_
    subst hr
    refine up h2 fun _ s3 ⟨x, H3, I3, r3, y3, st3, n3⟩ => ?_
    have J3 := I3.pinned (stat n3) (T.obj _ _ st3)
    refine up (pg.run _ s3 _ H3 x u _ J3 r3 (step x H3 y3)) fun _ s4 ⟨σ4, H4, I4, hw4, q4⟩ => ?_
    refine up (pt.run _ s4 σ4 H4 _ I4 q4) fun b s5 ⟨H5, I5, q5⟩ => ?_
    have fin : ∀ {τ : L2.St} {s' : Shared} {H' : Hp}, Inv Y (pins ++ pinsAt fp s3.heap) τ H' s' → τ.length = σ4.length → (∀ (j : Nat) v, j ∉ vs → σ4[j]? = some (some v) → τ[j]? = some (some v)) → N2 H' →
        ∃ m, m < n ∧ ∃ i H', Inv Y pins (wipe σ vs) H' s' ∧ tn i s'.heap ∧ (∀ b ∈ fp, H' b = none) ∧ W i m H' := fun {τ s' H'} I' hl hk nx => by
      obtain ⟨m, hm, w'⟩ := hN2 H' nx
      have at_ : ∀ b ∈ fp, ∀ o, s3.heap.get? b = some o → s'.heap.get? b = some o ∧ H' b = none := fun b hb o z =>
        let y := I'.pin (b, o) (List.mem_append_right _ (List.mem_append_right _ (mem_pinsAt hb z)))
        ⟨y.1, y.2.1⟩
      refine ⟨m, hm, i + 1, H', I'.unpinned.weak (by rw [hl, ← hw4, wipe_length]) (fun j v z => ?_), T.keep _ _ _ st3 fun b hb o z => (at_ b hb o z).1, fun b hb => ?_, w'⟩
      · rw [← hw4] at z
        exact hk j v (wipe_some z).2 (wipe_some z).1
      · obtain ⟨o, z, _⟩ := T.obj _ _ st3 b hb
        exact (at_ b hb o z).2
    cases b with
    | false =>
      simp only [Bool.false_eq_true, if_false] at q5 ⊢
      exact fin I5 rfl (fun _ _ _ z => z) q5
    | true =>
      simp only [if_true] at q5 ⊢
      refine (hcode _ hx _ s5 σ4 H5 _ I5 q5).mono fun s6 ⟨H6, I6, nx⟩ => ?_
      exact fin I6 (wipe_length _ _) (fun j v hj z => by rw [wipe_out fun q => hj (hw j q)]; exact z) nx
end
end R
namespace R
open PySem PySem.Spec PyProof.Rows L2
section
variable {Y : Cx}
theorem next_ok {e tg iter : Expr} {ifs : List Expr} {d : Nat} {acc : Value} {code : Sem PySem.Fin → Sem PySem.Fin} {wi : TI} {g : TG} {tt : TT} {vs ws : List Nat} {inn : L2.St → Hp → (Hp → Prop) → Prop} (hc : Y.calm = true)
    (hp : PassesOwn (model Y.prog Y.w) Y.A Y.env Y.xe) (hg : (clausesOf e)[d]? = some ⟨tg, iter, ifs, 0⟩) (hq : ∀ it, (Code.compLoop e d (.ref it) acc Y.env).quiet = true) (hu : ∀ it, Y.A.under (.compLoop e d (.ref it) acc Y.env) = Y.A) (hu1 : ∀ it, Y.A.under (.compStart e d (.ref it) acc Y.env) = Y.A)
    (hden : ∀ it, (model Y.prog Y.w).den (.compLoop e d (.ref it) acc Y.env) = (turnOf e d tg iter ifs (.ref it) acc Y.env code).onRaise (fun x => do noteFrame x Y.env; theTreesLotGoes x))
    (hden1 : ∀ it, (model Y.prog Y.w).den (.compStart e d (.ref it) acc Y.env) = (PySem.compStart e d (.ref it) acc Y.env).onRaise (fun x => do noteFrame x Y.env; standAt theWindowsPlace))
    (hi : PI Y tg iter wi) (hs : ∀ x, foldedSetIterable iter Y.env x = pure x) (pg : PG Y tg g) (pt : PTs Y ifs tt) (hcode : CodeOk Y code inn ws) (hw : ∀ i ∈ ws, i ∈ vs) :
    CodeOk Y (nextOf e d iter acc Y.env) (fun σ H N => wi σ H fun J H1 => tLp g tt vs inn J σ H1 N) vs := by
  intro E hE pins s σ H N I h k Q hk
  unfold nextOf
  refine wpAny_bind (wpAny_mono (hi.run pins s σ H _ I h) (fun x s1 h1 => ?_) hE)
  refine wpAny_bind (wpAny_standAt (wpAny_bind (wpAny_of_eq (hs x) (wpAny_bind (wpAny_holding (wpAny_mono h1 (fun itv s2 h2 => ?_) hE))))))
  obtain ⟨it, fp, tn, J, H2, rfl, I2, T, st2, f2, q⟩ := h2
  refine wpAny_bind (wpAny_runOwn ?_)
  rw [Around.mark_none]
  have hx : ∀ x s', Y.xe x s' → notedBy (model Y.prog Y.w) Y.A Y.env (cameBackBy (model Y.prog Y.w) Y.A Y.env E) x s' := fun x s' z =>
    wpAny_mono (hp x s' z) (fun _ _ y => wpAny_mono y (fun _ _ y => hE _ _ y) fun _ _ y => hE _ _ y) fun _ _ y => wpAny_mono y (fun _ _ y => hE _ _ y) fun _ _ y => hE _ _ y
  refine cl_start hg (hu1 it) (hden1 it) (hq it) (codeAny_mono (lp_run hc (hq it) (hu it) (hden it) pg pt hcode hw hx I2 T st2 f2 q) fun r s' hr => ?_) fun Q E q => T.self _ _ _ _ _ st2 q
  cases r with
  | ok f => exact hk s' hr
  | error x => exact hr
theorem emitL_ok {elt : Expr} {te : TE} {D : Addr} (pe : PE Y elt te) : CodeOk Y (fun k => do emitL elt (.ref D) Y.env; k)
    (fun σ H N => te σ H fun y H1 => ∃ acc, H1 D = some (.lst acc) ∧ acc.length < sizeLine ∧ N (upd H1 D (.lst (acc ++ [y])))) [] := by
  intro E hE pins s σ H N I h k Q hk
  refine wpAny_bind ?_
  unfold emitL
  refine wpAny_bind (wpAny_mono (pe.run pins s σ H _ I h) (fun u s1 ⟨y, H1, I1, r1, acc, hD, hz, nx⟩ => ?_) hE)
  refine wpAny_bind (app_ok I1 hD hz r1 fun s2 I2 => ?_)
  exact wpAny_pure (hk s2 ⟨_, I2, nx⟩)
end
end R
namespace R
open PySem PySem.Spec PyProof.Rows L2
section
variable {Y : Cx} {tb : Tb}
/-- D[k] = v by a comprehension -/
def tEmD (m : Pm) (D : Addr) (tk tv : TE) : L2.St → Hp → (Hp → Prop) → Prop := fun σ H N => tk σ H fun y H1 => tv σ H1 fun z H2 => ∃ c S es kvs d k dv, Wd m c H2 S ∧ H2 D = some (dHO m D es) ∧ RKs m c es.1 kvs ∧ RD m c y d ∧ keyOf d = some k ∧ RD m c z dv ∧ kvs.length < sizeLine ∧
  ∀ es' : DE, RKs m c es'.1 (putD kvs k d dv) → N (upd H2 D (dHO m D es'))
theorem emitD_ok {kx vx : Expr} {tk tv : TE} {D : Addr} (hun : Y.A.units + 64 < cLine) (pk : PE Y kx tk) (pv : PE Y vx tv) : CodeOk Y (fun r => do emitD kx vx D Y.env; r) (tEmD (mX Y tb) D tk tv) [] := by
  intro E hE pins s σ H N I h k Q hk
  refine wpAny_bind ?_
  unfold emitD
  refine wpAny_bind (wpAny_mono (pk.run pins s σ H _ I h) (fun u s1 ⟨y, H1, I1, r1, h1⟩ => ?_) hE)
  refine wpAny_bind (wpAny_holding (wpAny_mono (pv.run pins s1 σ H1 _ I1 h1) (fun u2 s2 ⟨z, H2, I2, r2, h2⟩ => ?_) hE))
  obtain ⟨c, S, es, kvs, d, κ, dv, w, hD, hr, hy, hκ, hv, hz, nx⟩ := h2
  obtain ⟨b, rfl⟩ := key_ref hy hκ
  cases r1
  obtain ⟨hs, _, xs, hP, dd⟩ := dict_of w I2 hD hr
  have hl := hr.length
  have hx : xs.length ≤ sizeLine := by rw [← Paired.length hP]; omega
  refine wpAny_bind (wpAny_standAt (wpAny_holding ?_))
  refine wpAny_dictSet_heap (knd := kn Y) (hsz := hx) (show Y.A.units + 8 < cLine by omega) ⟨RD.nis w I2 _ _ _ _ hy (keyOf_is hκ).2.1 rfl, (keyOf_is hκ).2.2⟩ dd fun h' dd' hs' => ?_
  obtain ⟨es', e1, e2, e3⟩ := put_rel (k := κ) r2 hv hy (keyOf_is hκ).2 hP hr
  obtain ⟨ob, hob⟩ : ∃ q, h'.get? D = some q := let ⟨q, _, _, hq, _⟩ := dd'; ⟨q, hq⟩
  exact hk _ ⟨_, I2.write (x := D) (e := D) (by rw [hD]; exact True.intro) (.inl rfl) (fun a g hn z => (hs'.2 a hn).trans z) ⟨ob, hob⟩ (dict_ok (m := mX Y tb) (by omega) hs e2 dd' hob), nx (es', ob) e3⟩
end
section
variable {X : Cx}
/-- a comprehension: D the new object, u what it is -/
def tCn (u : Addr → HO) (wi : TI) (g : TG) (tt : TT) (vs : List Nat) (inn : Addr → L2.St → Hp → (Hp → Prop) → Prop) : TE := fun σ H Q => wi σ H fun J H1 => ∀ D, H1 D = none → tLp g tt vs (inn D) J (wipe σ vs) (upd H1 D (u D)) (Q (.ref D))
theorem cn_core {pins : List (Addr × Obj)} {s : Shared} {σ : L2.St} {H : Hp} {Q : VK} {e tg iter : Expr} {ifs : List Expr} {gs : List Comprehension} {scope : Scope} {own : List (Str × Nat)} {pos' : Pos} {wi : TI} {g : TG} {tt : TT} {inn : Addr → L2.St → Hp → (Hp → Prop) → Prop} {ws : List Nat}
    {use : Option (Value → Sem Unit)} {Qf : Value → Shared → Prop} {newAcc : Sem Value} {ob : Obj} {u : Addr → HO} {code : Addr → PySem.Env → Sem PySem.Fin → Sem PySem.Fin}
    (hc : X.calm = true) (hN : X.N.Nodup) (I : Inv X pins σ H s) (hi : PI X tg iter wi) (ok : BlkOk X.N X.env.scope scope own) (hcl : clausesOf e = ⟨tg, iter, ifs, 0⟩ :: gs)
    (hnew : ∀ (A : Around) (E : Value → Shared → Prop) (Q : Value → Shared → Prop) (s : Shared), Q (.ref s.heap.objs.size) { s with heap := s.heap.push ob } → wpAny (model X.prog X.w) A newAcc Q E s)
    (hob : ∀ (H : Hp) (h : Heap), sysModules < h.objs.size → ObjOk X.prog X.w H (h.push ob) h.objs.size (u h.objs.size))
    (hq : ∀ it D env, (Code.compLoop e 0 (.ref it) (.ref D) env).quiet = true) (hu : ∀ (A : Around) it D env, A.under (.compLoop e 0 (.ref it) (.ref D) env) = A) (hu1 : ∀ (A : Around) it D env, A.under (.compStart e 0 (.ref it) (.ref D) env) = A)
    (hden : ∀ it D (env : PySem.Env), (model X.prog X.w).den (.compLoop e 0 (.ref it) (.ref D) env) = (turnOf e 0 tg iter ifs (.ref it) (.ref D) env (code D env)).onRaise (fun x => do noteFrame x env; theTreesLotGoes x))
    (hden1 : ∀ it D (env : PySem.Env), (model X.prog X.w).den (.compStart e 0 (.ref it) (.ref D) env) = (PySem.compStart e 0 (.ref it) (.ref D) env).onRaise (fun x => do noteFrame x env; standAt theWindowsPlace))
    (hg : ∀ (s : Shared) (H : Hp) (C : Addr) (cl : List (Str × Addr)) (fp : List Addr), PG (X.blk s H scope (compEnvC scope cl C X.env) fp) tg g)
    (ht : ∀ (s : Shared) (H : Hp) (C : Addr) (cl : List (Str × Addr)) (fp : List Addr), PTs (X.blk s H scope (compEnvC scope cl C X.env) fp) ifs tt)
    (hcd : ∀ (D : Addr) (s : Shared) (H : Hp) (C : Addr) (cl : List (Str × Addr)) (fp : List Addr), CodeOk (X.blk s H scope (compEnvC scope cl C X.env) fp) (code D (compEnvC scope cl C X.env)) (inn D) ws)
    (hw : ∀ i ∈ ws, i ∈ own.map (·.2)) (hs : ∀ x, foldedSetIterable iter X.env x = pure x)
    (h : tCn u wi g tt (own.map (·.2)) inn σ H Q)
    (fin : ∀ D C s' m H', Inv X pins σ H' s' → Q (.ref D) H' → s'.heap.Ns C m → FpOk X pins H' C → compPost (model X.prog X.w) X.A X.xe use Qf (.ref D) C (.ok .next) s') :
    wpAny (model X.prog X.w) X.A (comprehension e scope X.env pos' newAcc false (eval iter X.env) use) Qf X.xe s := by
  have cells : ∀ y ∈ scope.names, y.2 = .free → ∃ c, X.env.cells.lookup y.1 = some c := fun y hy z => (ok.free y hy z).elim (fun k => I.ok.has _ (.inl k)) fun k => I.ok.has _ (.inr k)
  refine wpAny_comprehension_free (use := use) hcl hs (closure_ok cells) ok.kind (fun y hy z => by rw [ok.uniq y hy, z])
    (thn (hi.run pins s σ H _ I h) fun xv s1 hx => thn hx fun itv s2 h2 => ?_)
  obtain ⟨it, fp, tn, J, H2, rfl, I2, T, st2, f2, q⟩ := h2
  refine hnew _ _ _ _ (newEnv_comp ?_)
  generalize hD : s2.heap.objs.size = D
  have fD : H2 D = none := I2.hok.fresh (Nat.le_of_eq hD)
  have lp := q D fD
  generalize e3 : ({ s2 with heap := s2.heap.push ob } : Shared) = s3
  have I3 : Inv X pins σ (upd H2 D (u D)) s3 := by
    rw [← e3]
    refine I2.laid (t' := s2.toks) (fun b o z => Heap.get?_push_of_some _ z) (Nat.le_of_eq hD) ?_
    rw [← hD]
    exact hob _ s2.heap I2.big
  have h3 : s3.heap = s2.heap.push ob := by rw [← e3]
  have old : ∀ b ∈ fp, b < s2.heap.objs.size := fun b hb => let ⟨o, z, _⟩ := T.obj _ _ st2 b hb; Heap.lt_size z
  have f3 : ∀ b ∈ fp, FpOk X pins (upd H2 D (u D)) b ∧ b < s3.heap.objs.size := fun b hb => by
    have hlt := old b hb
    refine ⟨⟨?_, (f2 b hb).2⟩, by rw [h3, Heap.size_push]; exact Nat.lt_succ_of_lt hlt⟩
    rw [upd_ne (by rw [← hD]; exact Nat.ne_of_lt hlt)]
    exact (f2 b hb).1
  have st3 : tn 0 s3.heap := T.keep _ _ _ st2 fun b _ o z => by rw [h3]; exact Heap.get?_push_of_some _ z
  have I4 := block_start I3 ok hN f3
  have pg := hg s3 (upd H2 D (u D)) s3.heap.objs.size (cellsFrom (s3.heap.objs.size + 1) scope.names (cloFrom X.env.cells scope.names [])) fp
  have pt := ht s3 (upd H2 D (u D)) s3.heap.objs.size (cellsFrom (s3.heap.objs.size + 1) scope.names (cloFrom X.env.cells scope.names [])) fp
  have pc := hcd D s3 (upd H2 D (u D)) s3.heap.objs.size (cellsFrom (s3.heap.objs.size + 1) scope.names (cloFrom X.env.cells scope.names [])) fp
  show codeAny _ _ (.compStart e 0 (.ref it) (.ref D) (compEnvC scope (cellsFrom (s3.heap.objs.size + 1) scope.names (cloFrom X.env.cells scope.names [])) s3.heap.objs.size X.env)) (compPost (model X.prog X.w) X.A X.xe use Qf (.ref D) s3.heap.objs.size)
    { s3 with heap := pushCells (s3.heap.push { cls := .type "dict", data := .dict #[] }) scope.names }
  have nfp : ∀ b ∈ fp, (upd H2 D (u D)) b = none := fun b hb => (f3 b hb).1.1
  generalize hce : compEnvC scope (cellsFrom (s3.heap.objs.size + 1) scope.names (cloFrom X.env.cells scope.names [])) s3.heap.objs.size X.env = ce at I4 pg pt pc ⊢
  have cL : ce.locals = s3.heap.objs.size := by subst hce; rfl
  generalize hH3 : upd H2 D (u D) = H3 at I3 I4 pg pt pc lp nfp f3
  generalize e4 : ({ s3 with heap := pushCells (s3.heap.push { cls := .type "dict", data := .dict #[] }) scope.names } : Shared) = s4 at I4 ⊢
  have st4 : tn 0 s4.heap := T.keep _ _ _ st3 fun b _ o z => by rw [← e4]; exact pushCells_keeps _ _ _ _ (Heap.get?_push_of_some _ z)
  have f4 : ∀ b ∈ fp, FpOk (X.blk s3 H3 scope ce fp) [] H3 b := fun b hb =>
    ⟨nfp b hb, (I4.ok.exf b hb).1, I4.ok.exfs b hb, .inl hb, fun x c z => (I4.ok.exf b hb).2 x c z, fun p hp => absurd (show p ∈ ([] : List (Addr × Obj)) ++ [] from hp) (by simp)⟩
  have run := lp_run (Y := X.blk s3 H3 scope ce fp) (acc := .ref D) (Er := fun _ _ => False) hc (hq it D ce) (hu _ it D ce) (hden it D ce) pg pt pc hw (fun _ _ z => z.elim) I4 T st4 f4 lp
  refine cl_start (by rw [hcl]; rfl) (hu1 _ it D ce) (hden1 it D ce) (hq it D ce) (codeAny_mono run fun r s' hr => ?_) fun Q E q => T.self _ _ _ _ _ st4 q
  cases r with
  | error x => exact hr.elim
  | ok f =>
    obtain ⟨H5, I6, qq⟩ := hr
    have I7 : Inv X pins σ H5 s' := I3.call' (ch := fp) I6.os I6.base I6.hok I6.bare fun b hb => ⟨(f3 b hb).1.2.2.2.1, (f3 b hb).1.2.1, (f3 b hb).1.2.2.2.2.1, (f3 b hb).1.2.2.2.2.2⟩
    have nC : H5 s3.heap.objs.size = none := by rw [← cL]; exact I6.free
    obtain ⟨m, hn, _⟩ := I6.loc
    have hn : s'.heap.Ns ce.locals m := hn
    rw [cL] at hn
    have z := fin D s3.heap.objs.size s' m H5 I7 qq hn (I3.fpOk (Nat.le_refl _) nC)
    cases use <;> exact z
end
end R

set_option maxHeartbeats 1000000
/-! What ties an expression of the text to an E. -/
namespace R
open PySem L2

def slotB (N : List Str) (sc : Scope) (i : Nat) (x : Str) : Bool := decide (N[i]? = some x) && visB sc x && okN x
def glbB (sc : Scope) (x : Str) : Bool := glB sc x && okN x
def tgsB (N : List Str) (sc : Scope) : List Nat → List Expr → Bool
  | [], [] => true
  | i :: is, .Name x _ :: es => decide (N[i]? = some x) && locB sc x && tgsB N sc is es
  | _, _ => false
def tgB (N : List Str) (sc : Scope) (is : List Nat) (e : Expr) : Bool := match e with
  | .Name x _ => (match is with
    | [i] => decide (N[i]? = some x) && locB sc x
    | _ => false)
  | .Tuple es _ _ => (is.length != 1) && tgsB N sc is es
  | _ => false
/-- walks of pairs: their targets are pairs -/
def tgOk : I → Expr → Bool
  | .zip2 _ _, .Tuple _ _ _ => true
  | .zip2 _ _, _ => false
  | .enum _, .Tuple _ _ _ => true
  | .enum _, _ => false
  | _, _ => true
def tgI (N : List Str) (sc : Scope) (it : I) (is : List Nat) (e : Expr) : Bool := tgB N sc is e && tgOk it e
theorem tgI_l {N : List Str} {sc : Scope} {it : I} {is : List Nat} {e : Expr} (h : tgI N sc it is e = true) : tgB N sc is e = true := (Bool.and_eq_true_iff.mp h).1
theorem tgI_r {N : List Str} {sc : Scope} {it : I} {is : List Nat} {e : Expr} (h : tgI N sc it is e = true) : tgOk it e = true := (Bool.and_eq_true_iff.mp h).2
def iterOk : Expr → Bool
  | .Set _ _ _ => false
  | _ => true
theorem iter_ok {e : Expr} (h : iterOk e = true) (env : PySem.Env) (x : Value) : foldedSetIterable e env x = pure x := by
  unfold foldedSetIterable
  cases e <;> first | rfl | cases h
def notSlice : Expr → Bool
  | .Slice _ _ _ _ => false
  | _ => true
theorem plain_ix {e : Expr} (h : notSlice e = true) : PlainIx e := by
  intro o i
  cases e <;> first | rfl | cases h
def ownP (N : List Str) (is : List Nat) : List (Str × Nat) := is.map fun i => (N.getD i "", i)
def isTrueC : E → Bool
  | .cst (.bl true) => true
  | _ => false
def kdB (n : Nm) (f : Nat) (p : Kd → Bool) : Bool := match n.kd f with
  | some k => p k
  | none => false
/-- the builtins of one argument -/
def bltS : Nat → Option Str
  | 0 => some "sum" | 1 => some "max" | 2 => some "all" | 3 => some "tuple" | 4 => some "any" | 5 => some "min" | 6 => some "sorted" | 7 => some "sorted" | 8 => some "str" | _ => none
def blt2S : Nat → Option Str
  | 0 => some "max" | 1 => some "min" | _ => none
def smS : Nat → Option Str
  | 0 => some "split" | 1 => some "join" | 2 => some "strip" | _ => none
def noIf : Expr → Bool
  | .IfExp _ _ _ _ => false
  | _ => true
section
variable (n : Nm) (fn : Nat → List Str) (N : List Str)
mutual
def chkE : E → Scope → Bool → Expr → Bool
  | .var i, sc, _, e => match e with
    | .Name x _ => slotB N sc i x
    | _ => false
  | .peek i, sc, _, e => match e with
    | .Name x _ => slotB N sc i x
    | _ => false
  | .glb g, sc, _, e => match e with
    | .Name x _ => decide (x = n.gn g) && glbB sc x
    | _ => false
  | .cst d, _, _, e => match d, e with
    | .int i, .Constant (.int j) _ _ => decide (i = j)
    | .bl i, .Constant (.bool j) _ _ => decide (i = j)
    | .non, .Constant .none _ _ => true
    | .str i, .Constant (.str j) _ _ => decide (i = j)
    | _, _ => false
  | .bin op a b, sc, hot, e => match e with
    | .BinOp l o r _ => decide (o = opOf op) && chkE a sc hot l && chkE b sc hot r
    | _ => false
  | .neg a, sc, hot, e => match e with
    | .UnaryOp .USub x _ => chkE a sc hot x
    | _ => false
  | .not a, sc, hot, e => match e with
    | .UnaryOp .Not x _ => noIf x && chkE a sc hot x
    | _ => false
  | .and a b, sc, hot, e => match e with
    | .BoolOp .And [x, y] _ => noIf x && noIf y && chkE a sc hot x && chkE b sc hot y
    | .BoolOp .And (x :: y :: z :: r) p => noIf x && chkE a sc hot x && chkE b sc hot (.BoolOp .And (y :: z :: r) p)
    | _ => false
  | .or a b, sc, hot, e => match e with
    | .BoolOp .Or [x, y] _ => noIf x && noIf y && chkE a sc hot x && chkE b sc hot y
    | .BoolOp .Or (x :: y :: z :: r) p => noIf x && chkE a sc hot x && chkE b sc hot (.BoolOp .Or (y :: z :: r) p)
    | _ => false
  | .cmp op a b, sc, hot, e => match e with
    | .Compare l [o] [r] _ => decide (o = copOf op) && !behindInMarks (copOf op) r && chkE a sc hot l && chkE b sc hot r
    | _ => false
  | .chain op op' a b c, sc, hot, e => match e with
    | .Compare l [o, o'] [r, r'] _ => decide (o = copOf op) && decide (o' = copOf op') && !lastMarks [copOf op, copOf op'] [r, r'] && chkE a sc hot l && chkE b sc hot r && chkE c sc hot r'
    | _ => false
  | .isin neg a b, sc, hot, e => match e with
    | .Compare l [o] [r] _ => decide (o = if neg then .NotIn else .In) && !behindInMarks (if neg then .NotIn else .In) r && chkE a sc hot l && chkE b sc hot r
    | _ => false
  | .isNone neg a, sc, hot, e => match e with
    | .Compare l [o] [.Constant .none _ _] _ => decide (o = if neg then .IsNot else .Is) && chkE a sc hot l
    | _ => false
  | .ite c a b, sc, hot, e => match e with
    | .IfExp t x y _ => noIf t && chkE c sc hot t && chkE a sc hot x && chkE b sc hot y
    | _ => false
  | .tup es, sc, hot, e => match e with
    | .Tuple l _ _ => chkL es sc hot l
    | _ => false
  | .lst es, sc, hot, e => match e with
    | .List l _ => chkL es sc hot l
    | _ => false
  | .idx a i, sc, hot, e => match e with
    | .Subscript v s _ => notSlice s && chkE a sc hot v && chkE i sc hot s
    | _ => false
  | .fld c j a, sc, hot, e => match e with
    | .Attribute v f _ => decide ((fn c)[j]? = some f) && baseOk v && chkE a sc hot v
    | _ => false
  | .prop c f a, sc, hot, e => match e with
    | .Attribute v x _ => !hot && kdB n f (fun | .prop c' x' => decide (c' = c) && decide (x' = x) | _ => false) && baseOk v && chkE a sc hot v
    | _ => false
  | .call f es, sc, hot, e => match e with
    | .Call (.Name x _) l [] _ => !hot && kdB n f (fun | .glob x' => decide (x' = x) | _ => false) && glbB sc x && l.all notStar && chkL es sc hot l
    | _ => false
  | .make c f es, sc, hot, e => match e with
    | .Call (.Name x _) l [] _ => !hot && kdB n f (fun | .ctor c' => decide (c' = c) | _ => false) && decide (n.cn c = x) && glbB sc x && l.all notStar && chkL es sc hot l
    | _ => false
  | .meth c f o es, sc, hot, e => match e with
    | .Call (.Attribute v x p) l [] p' => !hot && kdB n f (fun | .meth c' x' => decide (c' = c) && decide (x' = x) | _ => false) && baseOk v && (p.endLine == p'.line) && decide (l.length < 30) && (es.starry || l.all notStar) && chkE o sc hot v && chkL es sc hot l
    | _ => false
  | .eqOwn neg c f a b, sc, hot, e => match e with
    | .Compare l [o] [r] _ => !hot && !neg && kdB n f (fun | .eq c' => decide (c' = c) | _ => false) && decide (o = .Eq) && chkE a sc hot l && chkE b sc hot r
    | _ => false
  | .toInt a, sc, hot, e => match e with
    | .Call (.Name x _) [y] [] _ => decide (x = "int") && decide (x ∈ n.free) && glbB sc x && notStar y && chkE a sc hot y
    | _ => false
  | .toList a, sc, hot, e => match e with
    | .Call (.Name x _) [y] [] _ => !hot && decide (x = "list") && decide (x ∈ n.free) && glbB sc x && notStar y && chkE a sc hot y
    | _ => false
  | .len a, sc, hot, e => match e with
    | .Call (.Name x _) [y] [] _ => decide (x = "len") && decide (x ∈ n.free) && glbB sc x && notStar y && chkE a sc hot y
    | _ => false
  | .isi ty a, sc, hot, e => match e with
    | .Call (.Name x _) [y, .Name z _] [] _ => decide (x = "isinstance") && decide (x ∈ n.free) && glbB sc x && notStar y && decide (z ∈ n.free) && glbB sc z && decide ((tyS ty).map Str.ofString = some z) && chkE a sc hot y
    | _ => false
  | .isiC c a, sc, hot, e => match e with
    | .Call (.Name x _) [y, .Name z _] [] _ => decide (x = "isinstance") && decide (x ∈ n.free) && glbB sc x && notStar y && n.cls c && decide (n.cn c = z) && glbB sc z && chkE a sc hot y
    | _ => false
  | .excIs i c, sc, hot, e => match e with
    | .Call (.Name x _) [y, .Name z _] [] _ => decide (x = "isinstance") && decide (x ∈ n.free) && glbB sc x && notStar y && n.exc c && decide (n.cn c = z) && glbB sc z && (match y with
      | .Name u _ => slotB N sc i u
      | _ => false)
    | _ => false
  | .excFld _ _ _, _, _, _ => false
  | .comp1 own tg it c elt, sc, hot, e => match e with
    | .ListComp e' [⟨tg', it', ifs', 0⟩] sc' _ => !hot && chkI it sc hot it' && tg.all (own.contains ·) && blkC N sc sc' (ownP N own) && tgI N sc' it tg tg' && chkE elt sc' false e' && (match ifs' with
      | [] => isTrueC c
      | [z] => noIf z && chkE c sc' false z
      | _ => false)
    | _ => false
  | .mk a, sc, hot, e => chkE a sc hot e
  | .slc a b c, sc, hot, e => match e with
    | .Subscript v (.Slice (some l) (some h) none _) _ => chkE a sc hot v && chkE b sc hot l && chkE c sc hot h
    | _ => false
  | .blt b a, sc, hot, e => match e with
    | .Call (.Name x _) [y] [] _ => !hot && decide (bltS b = some x) && decide (x ∈ n.free) && glbB sc x && notStar y && chkE a sc hot y
    | _ => false
  | .slcL a c, sc, hot, e => match e with
    | .Subscript v (.Slice none (some h) none _) _ => chkE a sc hot v && chkE c sc hot h
    | _ => false
  | .slcR a b, sc, hot, e => match e with
    | .Subscript v (.Slice (some l) none none _) _ => chkE a sc hot v && chkE b sc hot l
    | _ => false
  | .slcS _ _ _, _, _, _ => false
  | .dct0, _, _, e => match e with
    | .Dict [] [] _ => true
    | _ => false
  | .blt2 b a c, sc, hot, e => match e with
    | .Call (.Name x _) [y, z] [] _ => !hot && decide (blt2S b = some x) && decide (x ∈ n.free) && glbB sc x && notStar y && notStar z && chkE a sc hot y && chkE c sc hot z
    | _ => false
  | .smeth _ _ _, _, _, _ => false
  | .lenO c f a, sc, hot, e => match e with
    | .Call (.Name x _) [y] [] _ => !hot && decide (x = "len") && decide (x ∈ n.free) && glbB sc x && notStar y && kdB n f (fun | .meth c' x' => decide (c' = c) && decide (x' = "__len__") | _ => false) && chkE a sc hot y
    | _ => false
  | .eqDct _ _, _, _, _ => false
  | .compN own tg it c cs elt, sc, hot, e => match e with
    | .ListComp e' (⟨tg', it', ifs', 0⟩ :: gs) sc' _ => !hot && chkI it sc hot it' && tg.all (own.contains ·) && blkC N sc sc' (ownP N own) && tgI N sc' it tg tg' && chkE elt sc' false e' && chkC cs own sc' gs && (match ifs' with
      | [] => isTrueC c
      | [z] => noIf z && chkE c sc' false z
      | _ => false)
    | _ => false
  | .compD own tg it c cs k v, sc, hot, e => match e with
    | .DictComp k' v' (⟨tg', it', ifs', 0⟩ :: gs) sc' _ => !hot && chkI it sc hot it' && tg.all (own.contains ·) && blkC N sc sc' (ownP N own) && tgI N sc' it tg tg' && chkE k sc' false k' && chkE v sc' false v' && chkC cs own sc' gs && (match ifs' with
      | [] => isTrueC c
      | [z] => noIf z && chkE c sc' false z
      | _ => false)
    | _ => false
def chkC : Cs → List Nat → Scope → List Comprehension → Bool
  | .nil, _, _, gs => gs.isEmpty
  | .cons ws tg it c cs, out, sc, gs => match gs with
    | ⟨tg', it', ifs', 0⟩ :: gs => it.stays && ws.all (out.contains ·) && tg.all (ws.contains ·) && chkI it sc false it' && tgI N sc it tg tg' && chkC cs ws sc gs && (match ifs' with
      | [] => isTrueC c
      | [z] => noIf z && chkE c sc false z
      | _ => false)
    | _ => false
def chkL : Es → Scope → Bool → List Expr → Bool
  | .nil, _, _, l => match l with
    | [] => true
    | _ => false
  | .cons e es, sc, hot, l => match l with
    | x :: xs => notStar x && chkE e sc hot x && chkL es sc hot xs
    | _ => false
  | .star e es, sc, hot, l => match l with
    | .Starred x _ :: xs => chkE e sc hot x && chkL es sc hot xs
    | _ => false
def chkI : I → Scope → Bool → Expr → Bool
  | .seq e, sc, hot, x => iterOk x && chkE e sc hot x
  | .seqF e, sc, hot, x => iterOk x && chkE e sc hot x
  | .rng1 a, sc, hot, x => match x with
    | .Call (.Name x _) [y] [] _ => decide (x = "range") && decide (x ∈ n.free) && glbB sc x && notStar y && chkE a sc hot y
    | _ => false
  | .rng2 a b, sc, hot, x => match x with
    | .Call (.Name x _) [y, z] [] _ => decide (x = "range") && decide (x ∈ n.free) && glbB sc x && notStar y && notStar z && chkE a sc hot y && chkE b sc hot z
    | _ => false
  | .rng3 a b c, sc, hot, x => match x with
    | .Call (.Name x _) [y, z, u] [] _ => decide (x = "range") && decide (x ∈ n.free) && glbB sc x && notStar y && notStar z && notStar u && chkE a sc hot y && chkE b sc hot z && chkE c sc hot u
    | _ => false
  | .zip2 a b, sc, hot, x => match x with
    | .Call (.Name x _) [y, z] [] _ => decide (x = "zip") && decide (x ∈ n.free) && glbB sc x && notStar y && notStar z && chkE a sc hot y && chkE b sc hot z
    | _ => false
  | .enum a, sc, hot, x => match x with
    | .Call (.Name x _) [y] [] _ => decide (x = "enumerate") && decide (x ∈ n.free) && glbB sc x && notStar y && chkE a sc hot y
    | _ => false
  | .keys a, sc, hot, x => iterOk x && chkE a sc hot x
end
/-- a clause's tests -/
def ifB (c : E) (sc : Scope) (ifs : List Expr) : Bool := match ifs with
      | [] => isTrueC c
      | [z] => noIf z && chkE n fn N c sc false z
      | _ => false
def wsOf : Cs → List Nat
  | .nil => []
  | .cons ws _ _ _ _ => ws
end
end R

set_option maxHeartbeats 1000000
/-! The rules for calls, instances, isinstance, own ==, comprehensions. -/
namespace R
open PySem L2

section
variable {m : Pm} {c c₁ : Cfg} {H H₁ : Hp} {σ : St} {W : WX} {Q : VK} {out : Out Rv}
theorem post_call (h : Post m W c H σ out Q) (s : Step c H c₁ H₁) : PostC m c₁ H₁ out Q (WE W σ) := by
  cases out with
  | ok r S => exact fun c' H' v s' w x => h c' H' v (s.trans s') w (x.back s.dom)
  | exc k ds S => exact fun c' H' cls d s' w x => h c' H' cls d (s.trans s') w x
  | bad => exact h
theorem ar_len {C : Calls} {f n : Nat} {ds : List D} {S : Store} {Ex : XK} (a : Ar C f n) (h : PostC m c H (C f ds S) Q Ex) : ds.length = n := by
  rcases a ds S with e | e
  · rw [e] at h; exact h.elim
  · exact e
end

section
variable {X : Cx} {CX : CXT} {k : Nat} {f C : Addr} {fd : FuncData} {ps : List Str} {sp : Sp} {E : St → XK} {x : Str} {p pos : Pos} {e : Expr} {es : List Expr} {ta : TE} {t : TA}
theorem pe_callS0 (F : FnOk X.prog X.w X.K X.mg X.base CX k f fd ps sp) (hr : Room k X.A) (hg : Gl X x) (hm : X.mg x = some (.ref f)) (hk : PySem.W.keepIn X.K (.ref f) = true) (hb : Binds X.K fd ps []) (hx : ∀ σ, PassesAt CX X σ (E σ))
    (hdb : (x == ("__debug__" : Str)) = false := by decide) : PE X (.Call (.Name x p) [] [] pos) (tCallS sp E tNil) := by
  refine ⟨fun pins s σ H Q I h => ?_⟩
  refine wpAny_Call_Name_kw (ld_glob I hg hm ?_ hdb)
  exact PySem.W.callWith_K0 I.kIn hk (run_fnS (us := []) F hr hb (hx σ) I .nil h)
/-- C(..), what is raised wished for at the caller's slots -/
theorem run_makeS {pins : List (Addr × Obj)} {σ : St} {H : Hp} {s : Shared} {Q : VK} {us : List Value} {vs : List V} (M : Mk X.K C f) (F : FnOk X.prog X.w X.K X.mg X.base CX k f fd ps sp) (hr : Room (k + 1) X.A) (hb : Binds X.K fd ps [])
    (hx : PassesAt CX X σ (E σ)) (I : Inv X pins σ H s) (r : Vals vs us)
    (h : ∀ x dx, H x = none → H dx = none → dx ≠ x → sp (.ref x :: vs) (upd (upd H dx (.own x)) x (.ins C dx [])) (fun v H2 => v = .non ∧ Q (.ref x) H2) (E σ)) : wpAny (model X.prog X.w) X.A (call (.ref C) us) (EP X pins σ Q) X.xe s := by
  -- the instance stands at n + 1, its dict at n
  generalize hn : s.heap.objs.size = n
  have f1 : H (n + 1) = none := I.hok.fresh (by omega)
  have f2 : H n = none := I.hok.fresh (by omega)
  have wish := h (n + 1) n f1 f2 (Nat.ne_of_lt n.lt_succ_self)
  have J := Inv.made (C := C) I
  rw [hn] at J
  have rel : Vals (V.ref (n + 1) :: vs) (Value.ref (n + 1) :: us) := .cons rfl r
  have count : (Value.ref (n + 1) :: us ++ []).length = ps.length := by
    rw [List.append_nil, ← rel.length]
    exact F.len _ _ _ _ wish
  have bind := hb _ (Value.ref (n + 1) :: us) J.kIn count
  rw [List.append_nil] at bind
  have body := F.run _ X.stack _ _ ⟨Value.ref (n + 1) :: us, []⟩ (Value.ref (n + 1) :: us) _ _ (E σ) (hr.make C us []) (J.env0.make C us []) bind rel wish
  subst hn
  apply wpAny_call
  apply make_map (f := f) I.kIn M.makes M.init (beq_iff_eq.mp M.fn)
  refine codeAny_mono body ?_
  intro res s2 left
  match res, left with
  | .error x, left => exact hx pins _ _ x s2 J left
  | .ok (.ret u), left =>
    obtain ⟨_, G, J2, rv, rfl, q⟩ := J.after left
    exact ⟨rv, .ref _, G, J2, rfl, q⟩
def tMakeS (C : Addr) (sp : Sp) (E : St → XK) (t : TA) : TE := fun σ H Q => t σ H fun vs H1 => ∀ x dx, H1 x = none → H1 dx = none → dx ≠ x →
  sp (.ref x :: vs) (upd (upd H1 dx (.own x)) x (.ins C dx [])) (fun v H2 => v = .non ∧ Q (.ref x) H2) (E σ)
theorem pe_makeS (M : Mk X.K C f) (F : FnOk X.prog X.w X.K X.mg X.base CX k f fd ps sp) (hr : Room (k + 1) X.A) (hg : Gl X x) (hm : X.mg x = some (.ref C)) (hb : Binds X.K fd ps []) (hx : ∀ σ, PassesAt CX X σ (E σ))
    (ha : PA X (e :: es) t) (hdb : (x == ("__debug__" : Str)) = false) (he : starEach (e :: es) X.env = (false, eval e X.env) :: starEach es X.env) (hpl : (backTo pos (starEach es X.env)).any (·.1) = false) :
    PE X (.Call (.Name x p) (e :: es) [] pos) (tMakeS C sp E t) := by
  refine ⟨fun pins s σ H Q I h => ?_⟩
  refine wpAny_Call_Name_kw (ld_glob I hg hm ?_ hdb)
  refine PySem.W.callWith_K (h₀ := X.base) I.ok.mod.kin M.kp (thn (ha.run pos pins s σ H _ I h) fun us s1 ⟨vs, H1, I1, r, q⟩ => ⟨I1.kIn, ?_⟩) he hpl
  exact run_makeS M F hr hb (hx σ) I1 r q
theorem pe_makeS0 (M : Mk X.K C f) (F : FnOk X.prog X.w X.K X.mg X.base CX k f fd ps sp) (hr : Room (k + 1) X.A) (hg : Gl X x) (hm : X.mg x = some (.ref C)) (hb : Binds X.K fd ps []) (hx : ∀ σ, PassesAt CX X σ (E σ))
    (hdb : (x == ("__debug__" : Str)) = false) : PE X (.Call (.Name x p) [] [] pos) (tMakeS C sp E tNil) := by
  refine ⟨fun pins s σ H Q I h => ?_⟩
  refine wpAny_Call_Name_kw (ld_glob I hg hm ?_ hdb)
  exact PySem.W.callWith_K0 I.kIn M.kp (run_makeS (us := []) M F hr hb (hx σ) I .nil h)
end

/-! ### methods -/
theorem bt_all : ∀ {es : List Expr} {env : PySem.Env} {pos : Pos}, es.all notStar = true → (backTo pos (starEach es env)).all (fun x => !x.1) = true := by
  intro es env pos h
  have := star_none (env := env) (pos := pos) h
  rw [List.all_eq_true]
  intro x hx
  rw [List.any_eq_false] at this
  have := this x hx
  simpa using this
theorem ht_of {o : Expr} {mn : Str} {apos pos : Pos} {es : List Expr} {env : PySem.Env} (h1 : baseOk o = true) (h2 : es.all notStar = true) (h3 : (apos.endLine == pos.line) = true) (h4 : es.length < 30) :
    eval (.Call (.Attribute o mn apos) es [] pos) env = (do
      let ov ← eval o env
      standAt apos.atName
      let (f, first) ← holding [ov] (getMethod ov mn (plainOf o env))
      callWith pos f first (backTo pos (starEach es env)) (backToKw pos (keywordEach [] env))) := by
  have hf : methodCallForm (es.length + ([] : List Keyword).length) (backTo pos (starEach es env)) (backToKw pos (keywordEach [] env)) = true := by
    unfold methodCallForm
    rw [bt_all h2]
    show (true && true && decide (es.length + 0 + 0 < 30)) = true
    rw [decide_eq_true (by omega)]
    rfl
  rw [arm_eval_Call, base_ok h1]
  simp only [mcall_line hf h3]
section
variable {X : Cx} {CX : CXT} {k : Nat} {f C : Addr} {fd : FuncData} {ps : List Str} {sp : Sp} {E : St → XK} {x mn : Str} {p apos pos : Pos} {o e : Expr} {es : List Expr} {ta : TE} {t : TA}
def tMethU (C : Addr) (mn : Str) (sp : Sp) (E : St → XK) (ta : TE) (t : TA) : TE := fun σ H Q => ta σ H fun x H1 => ∃ a dx fs, x = .ref a ∧ H1 a = some (.ins C dx fs) ∧ fs.lookup mn = none ∧ t σ H1 fun vs H2 => sp (x :: vs) H2 Q (E σ)
theorem pe_methU (he : PE X o ta) (c : Cls X.K C) (hm : Meth X.K C mn f) (F : FnOk X.prog X.w X.K X.mg X.base CX k f fd ps sp) (hr : Room k X.A) (hb : Binds X.K fd ps []) (hx : ∀ σ, PassesAt CX X σ (E σ)) (ha : PA X (e :: es) t)
    (h1 : baseOk o = true) (h2 : (e :: es).all notStar = true) (h3 : (apos.endLine == pos.line) = true) (h4 : (e :: es).length < 30) :
    PE X (.Call (.Attribute o mn apos) (e :: es) [] pos) (tMethU C mn sp E ta t) := by
  refine ⟨fun pins s σ H Q I h => ?_⟩
  rw [List.all_cons, Bool.and_eq_true] at h2
  refine PySem.W.methodCall_KW (pl := plainOf o X.env) (thn (he.run pins s σ H _ I h) fun u s1 ⟨x, H1, I1, rx, a, dx, fs, ex, ea, l, q⟩ => ?_) (ht_of h1 (by rw [List.all_cons, h2.1, h2.2]; rfl) h3 h4)
  subst ex
  obtain rfl : u = Value.ref a := rx
  refine getmeth_ok I1 ea c hm l ?_
  refine PySem.W.callWith_K (first := [.ref a]) (h₀ := X.base) I.ok.mod.kin hm.kp (thn (ha.run pos pins s1 σ H1 _ I1 q) fun us s2 ⟨vs, H2, I2, r, q2⟩ => ⟨I2.kIn, ?_⟩) (star_cons h2.1) (star_none h2.2)
  exact run_fnS (us := .ref a :: us) (vs := .ref a :: vs) F hr hb (hx σ) I2 (.cons rfl r) q2
theorem pe_methU0 (he : PE X o ta) (c : Cls X.K C) (hm : Meth X.K C mn f) (F : FnOk X.prog X.w X.K X.mg X.base CX k f fd ps sp) (hr : Room k X.A) (hb : Binds X.K fd ps []) (hx : ∀ σ, PassesAt CX X σ (E σ))
    (h1 : baseOk o = true) (h3 : (apos.endLine == pos.line) = true) : PE X (.Call (.Attribute o mn apos) [] [] pos) (tMethU C mn sp E ta tNil) := by
  refine ⟨fun pins s σ H Q I h => ?_⟩
  refine PySem.W.methodCall_KW (pl := plainOf o X.env) (thn (he.run pins s σ H _ I h) fun u s1 ⟨x, H1, I1, rx, a, dx, fs, ex, ea, l, q⟩ => ?_) (ht_of h1 rfl h3 (by decide))
  subst ex
  obtain rfl : u = Value.ref a := rx
  refine getmeth_ok I1 ea c hm l ?_
  exact PySem.W.callWith_K0 I1.kIn hm.kp (run_fnS (us := [.ref a]) (vs := [.ref a]) F hr hb (hx σ) I1 (.cons rfl .nil) q)
end

section
variable {X : Cx} {CX : CXT} {k : Nat} {f C : Addr} {fd : FuncData} {ps : List Str} {sp : Sp} {E : XK} {mn : Str} {apos pos : Pos} {o : Expr} {es : List Expr} {ta : TE} {t : TA}
theorem fnR_of (F : FnOk X.prog X.w X.K X.mg X.base CX k f fd ps sp) (hb : Binds X.K fd ps []) : FnR X.prog X.w X.K X.mg X.base CX k f sp := by
  intro A outer s H us vs Q E hr e0 r h
  have hl : us.length = ps.length := by rw [← r.length]; exact F.len _ _ _ _ h
  have b := hb s us (e0.mod.kin.keeps fun b o z => (e0.bs b o z).1) (by rw [List.append_nil]; exact hl)
  rw [List.append_nil] at b
  exact F.run A outer s H ⟨us, []⟩ us vs Q E hr e0 b r h
def tMethST (C : Addr) (mn : Str) (g : Addr) (sp : Sp) (E : XK) (ta : TE) (t : TA) : TE := fun σ H Q => ta σ H fun x H1 => ∃ a dx fs, x = .ref a ∧ H1 a = some (.ins C dx fs) ∧ fs.lookup mn = none ∧
  ∀ q, H1 q = none → t σ (upd H1 q (.met g a)) fun vs H2 => H2 q = some (.met g a) ∧ sp (.ref a :: vs) H2 Q E
theorem star_len : ∀ {es : List Expr} {env : PySem.Env}, (starEach es env).length = es.length
  | [], _ => rfl
  | e :: es, env => by
    have ih := star_len (es := es) (env := env)
    cases e <;> (show (starEach es env).length + 1 = es.length + 1; rw [ih])
theorem args_many {M : Model} {A : Around} {Er : Value → Shared → Prop} {s : Shared} {fv : Value} {Q : Args → Shared → Prop} : ∀ {args : List (Bool × Sem Value)}, 2 ≤ args.length → wpAny M A (spliced args) (fun vs s' => Q ⟨vs, []⟩ s') Er s → wpAny M A (evalArgs fv true args []) Q Er s
  | [], h, _ => absurd h (by decide)
  | [_], h, _ => absurd h (by show ¬ 2 ≤ 1; decide)
  | (b1, x) :: y :: rest, _, h => by
    unfold evalArgs
    cases b1
    · show wpAny M A (spliced ((false, x) :: y :: rest) >>= _) Q Er s
      refine wpAny_bind (wpAny_mono h (fun vs s' h' => ?_) fun _ _ x => x)
      refine wpAny_holding ?_
      exact wpAny_bind (wpAny_pure (wpAny_bind (wpAny_pure (wpAny_pure h'))))
    · show wpAny M A (spliced ((true, x) :: y :: rest) >>= _) Q Er s
      refine wpAny_bind (wpAny_mono h (fun vs s' h' => ?_) fun _ _ x => x)
      refine wpAny_holding ?_
      exact wpAny_bind (wpAny_pure (wpAny_bind (wpAny_pure (wpAny_pure h'))))
/-- o.m( *e) -/
theorem pe_methS1 {e : Expr} {te : TE} {p : Pos} (he : PE X o ta) (c : Cls X.K C) (b : BMeth X.K C mn f) (F : FnR X.prog X.w X.K X.mg X.base CX k f sp) (hr : Room k X.A) (hx : Passes CX X E) (ha : PE X e te) (h1 : baseOk o = true) :
    PE X (.Call (.Attribute o mn apos) [.Starred e p] [] pos) (tMethST C mn f sp E ta (StX.tStar X.K te tNil)) := by
  refine ⟨fun pins s σ H Q I h => ?_⟩
  refine starcall_of (base_ok h1) (thn (he.run pins s σ H _ I h) fun u s1 ⟨x, H1, I1, rx, a, dx, fs, ex, ea, l, q⟩ => ?_)
  subst ex
  obtain rfl : u = Value.ref a := rx
  refine getbound_ok I1 ea c b l fun q1 s2 hq1 I2 => ?_
  refine PySem.W.ks_call (P := PySem.W.MethP X.K q1 f (.ref a)) rfl (PySem.W.keeps_M b.fi) (PySem.W.ks_lone ?_)
  refine thn (ha.run pins s2 σ _ _ I2 (q q1 hq1)) fun v s3 ⟨y, H2, I3, ry, t, vs, ey, ht, hq⟩ => ?_
  subst ey
  obtain rfl : v = Value.ref t := ry
  obtain ⟨hm, hsp⟩ := hq
  rw [List.append_nil] at hsp
  refine StX.star_any I3 ht fun us s4 I4 rv => ⟨met_P I4 hm, ?_⟩
  exact wpAny_call (PySem.W.method_call (met_P I4 hm).1 (run_fnR (us := Value.ref a :: us) (vs := V.ref a :: vs) F hr hx I4 (.cons rfl rv) hsp))
/-- o.m( .. *e ..) -/
theorem pe_methST (he : PE X o ta) (c : Cls X.K C) (b : BMeth X.K C mn f) (F : FnR X.prog X.w X.K X.mg X.base CX k f sp) (hr : Room k X.A) (hx : Passes CX X E) (ha : PA X es t)
    (h1 : baseOk o = true) (h3 : 2 ≤ es.length) (h2 : ∀ pos, (backTo pos (starEach es X.env)).any (·.1) = true) : PE X (.Call (.Attribute o mn apos) es [] pos) (tMethST C mn f sp E ta t) := by
  refine ⟨fun pins s σ H Q I h => ?_⟩
  have hform : methodCallForm (es.length + ([] : List Keyword).length) (backTo pos (starEach es X.env)) (backToKw pos (keywordEach [] X.env)) = false := by
    unfold methodCallForm
    have : (backTo pos (starEach es X.env)).all (!·.1) = false := by
      have := h2 pos
      rw [List.any_eq_true] at this
      obtain ⟨x, hx, e⟩ := this
      rw [Bool.eq_false_iff]
      intro z
      have := List.all_eq_true.mp z x hx
      rw [e] at this
      cases this
    rw [this]
    rfl
  have hpos : methodCallPos false o X.env apos pos = pure pos := rfl
  have hcal : ∀ ov, calleeOf false o X.env ov mn = (getAttr ov mn true >>= fun v => pure (v, [])) := fun _ => rfl
  rw [arm_eval_Call, base_ok h1]
  refine wpAny_bind (thn (he.run pins s σ H _ I h) fun u s1 ⟨x, H1, I1, rx, a, dx, fs, ex, ea, l, q⟩ => ?_)
  subst ex
  obtain rfl : u = Value.ref a := rx
  refine wpAny_bind (wpAny_standAt ?_)
  unfold methodCall
  rw [hform, hpos, hcal]
  refine wpAny_bind (wpAny_holding (wpAny_bind ?_))
  refine getbound_ok I1 ea c b l fun q1 s2 hq1 I2 => wpAny_pure (wpAny_bind (wpAny_pure ?_))
  refine PySem.W.ks_call (P := PySem.W.MethP X.K q1 f (.ref a)) (h2 pos) (PySem.W.keeps_M b.fi) (args_many (by unfold backTo; rw [List.length_map, star_len]; exact h3) (thn (ha.run pos pins s2 σ _ _ I2 (q q1 hq1)) fun us s3 ⟨vs, H2, I3, rv, hm, hsp⟩ => ?_))
  exact ⟨met_P I3 hm, wpAny_call (PySem.W.method_call (met_P I3 hm).1 (run_fnR (us := Value.ref a :: us) (vs := V.ref a :: vs) F hr hx I3 (.cons rfl rv) hsp))⟩
end
/-! ### types -/
def tyD (m : Pm) : D → Value
  | .non => .type "NoneType" | .bl _ => .type "bool" | .int _ => .type "int" | .str _ => .type "str"
  | .tup _ => .type "tuple" | .lst _ => .type "list" | .dct _ => .type "dict" | .ins k _ => .ref (m.cl k)
  | .obj _ => .none | .scr _ => .none
section
variable {X : Cx} {tb : Tb} {n : Nm} {T : Tab} {C : Calls} {k : Nat} {pins : List (Addr × Obj)} {σ : St} {H : Hp} {s : Shared} {c : Cfg} {S : Store} {v : V} {u : Value} {d : D}
theorem kit_RT (F : Facts (mX X tb) X.mg X.base n T C k) (I : Inv X pins σ H s) (w : Wd (mX X tb) c H S) (rv : RelV v u) (h : RT (mX X tb) c H v d) (ok : okTy T d = true) :
    ∃ P, PySem.W.KitX X.K u (tyD (mX X tb) d) P ∧ P s.heap ∧ u ≠ .builtin "__main__.__loader__#opaque" := by
  have ty : ∀ {t : Value}, TyX X.K H v t → ∃ P, PySem.W.KitX X.K u t P ∧ P s.heap ∧ u ≠ .builtin "__main__.__loader__#opaque" := fun h => kit_of I rv h
  cases d with
  | non => cases h.non; exact ty (.base .non)
  | bl b => cases h.bl; exact ty (.base (.bl b))
  | int i => cases h.int; exact ty (.base (.int i))
  | str x => cases h.str; exact ty (.base (.str x))
  | tup xs =>
    obtain ⟨p, vs, rfl, hp, _, _⟩ := h.tup w
    rcases hp with (hp | ⟨o, hp⟩) | ⟨o, its, n', hk, hc, _⟩
    · exact ty (.base (.tup hp))
    · exact ty (.fTuple hp)
    · exact ty (.kTuple hk hc)
  | lst xs =>
    obtain ⟨p, vs, rfl, hp, _⟩ := h.lst w
    exact ty (.base (.lst hp))
  | dct kvs =>
    have key : ∃ p es, v = .ref p ∧ H p = some (dHO (mX X tb) p es) := by
      generalize e : D.dct kvs = d at h
      cases h with
      | val h =>
        subst e
        cases h with
        | dct h1 h2 => exact ⟨_, _, rfl, w.le _ _ h1⟩
      | top h =>
        cases h with
        | lst h1 h2 => cases e
        | dct h1 h2 => exact ⟨_, _, rfl, h1⟩
        | ins h1 h2 h3 => cases e
    obtain ⟨p, es, rfl, hp⟩ := key
    cases rv
    obtain ⟨⟨_, _, xs, _, eds, ep, h1, h2, _⟩, _⟩ := I.hok p _ hp
    exact ⟨_, PySem.W.kitx_dict, ⟨es.2, h1, h2.1⟩, fun z => nomatch z⟩
  | ins k' ds =>
    obtain ⟨p, dx, vs, rfl, hp, _, _⟩ := h.ins w
    have cf := (F.cls k' ok).1
    exact ty (.base (.ins hp cf.cls cf.ha F.kobj.1 F.kobj.2 cf.hm))
  | obj _ => cases ok
  | scr _ => cases ok
theorem ty_kit (F : Facts (mX X tb) X.mg X.base n T C k) {ty : Nat} {b : Bool} {z : String} (h : tyIs ty d = some b) (hz : tyS ty = some z) (ok : okTy T d = true) : PySem.W.kitOne X.K (tyD (mX X tb) d) (.type z) = some b := by
  have key : ∀ {a : String}, tyD (mX X tb) d = .type a → kitB a z = some b → PySem.W.kitOne X.K (tyD (mX X tb) d) (.type z) = some b := fun e1 e2 => by rw [e1]; exact kit_ty e2
  cases d with
  | ins k' ds =>
    have cf := (F.cls k' ok).1
    have e := cf.kt ty z hz
    have hb : b = false := by
      match ty with
      | 0 => cases h; rfl
      | 1 => cases h; rfl
      | 2 => cases h; rfl
      | 3 => cases h; rfl
      | 4 => cases h; rfl
      | 5 => cases h; rfl
      | n + 6 => cases h
    rw [hb]
    exact e
  | obj _ => cases ok
  | scr _ => cases ok
  | _ =>
    refine key rfl ?_
    match ty with
    | 0 => cases h; cases hz; decide +kernel
    | 1 => cases h; cases hz; decide +kernel
    | 2 => cases h; cases hz; decide +kernel
    | 3 => cases h; cases hz; decide +kernel
    | 4 => cases h; cases hz; decide +kernel
    | 5 => cases h; cases hz; decide +kernel
    | n + 6 => cases h
def insB (c : Nat) : D → Bool
  | .ins c' _ => c' == c
  | _ => false
theorem cls_kit (F : Facts (mX X tb) X.mg X.base n T C k) {c' : Nat} (hc : T.cls c' = true) (ok : okTy T d = true) : PySem.W.kitOne X.K (tyD (mX X tb) d) (.ref (tb.cl c')) = some (insB c' d) ∧ PySem.W.notFirst X.K (tb.cl c') (tyD (mX X tb) d) = true := by
  have cf := (F.cls c' hc).1
  have tk : ∀ s ∈ tyNames, PySem.W.kitOne X.K (.type s) (.ref (tb.cl c')) = some false ∧ PySem.W.notFirst X.K (tb.cl c') (.type s) = true := cf.tk
  cases d with
  | ins k' ds => exact cf.kk k' ok
  | obj _ => cases ok
  | scr _ => cases ok
  | _ => exact tk _ (by decide)
/-- isinstance(x, T) -/
def rIsiT2 (m : Pm) (T : Tab) (ty : Nat) : List V → Hp → VK → Prop := fun xs H Q => ∃ c S x d b z, xs = [x, .ty z] ∧ Wd m c H S ∧ RT m c H x d ∧ okTy T d = true ∧ tyS ty = some z ∧ tyIs ty d = some b ∧ Q (.bl b) H
theorem call_isiT2 (F : Facts (mX X tb) X.mg X.base n T C k) {ty : Nat} : CallR X (.builtin "isinstance") (rIsiT2 (mX X tb) T ty) := by
  intro pins s σ H xs us Q I r h
  obtain ⟨c, S, x, d, b, z, rfl, w, hx, ok, hz, ht, q⟩ := h
  obtain ⟨u1, u2, rfl, r1, r2⟩ := vals2 r
  cases (show u2 = Value.type z from r2)
  obtain ⟨P, Z, p, ne⟩ := kit_RT F I w r1 hx ok
  exact PySem.W.kia_one Z I.kIn p (ty_kit F ht hz ok) ne fun tk => ⟨.bl b, H, I.tok tk, rfl, q⟩
def rIsiC2 (m : Pm) (T : Tab) (c' : Nat) : List V → Hp → VK → Prop := fun xs H Q => ∃ c S x d, xs = [x, .ref (m.cl c')] ∧ Wd m c H S ∧ RT m c H x d ∧ okTy T d = true ∧ Q (.bl (insB c' d)) H
theorem call_isiC2 (F : Facts (mX X tb) X.mg X.base n T C k) {c' : Nat} (hc : T.cls c' = true) : CallR X (.builtin "isinstance") (rIsiC2 (mX X tb) T c') := by
  intro pins s σ H xs us Q I r h
  obtain ⟨c, S, x, d, rfl, w, hx, ok, q⟩ := h
  obtain ⟨u1, u2, rfl, r1, r2⟩ := vals2 r
  cases (show u2 = Value.ref (tb.cl c') from r2)
  obtain ⟨P, Z, p, ne⟩ := kit_RT F I w r1 hx ok
  exact PySem.W.kia_one Z I.kIn p (cls_kit F hc ok).1 ne fun tk => ⟨.bl _, H, I.tok tk, rfl, q⟩
end
end R

set_option maxHeartbeats 1000000
/-! sum, max, all, tuple(..), slices of what is seen. -/
namespace R
open PySem L2
theorem intsOf_is : ∀ {ds : List D} {ns : List Int}, intsOf ds = some ns → ds = ns.map D.int
  | [], _, h => by cases h; rfl
  | d :: ds, ns, h => by
    unfold intsOf at h
    split at h
    · rename_i e; cases e
    · rename_i i r e
      cases e
      obtain ⟨ms, h1, rfl⟩ := Option.map_eq_some_iff.mp h
      rw [intsOf_is h1]; rfl
    · cases h
theorem blsOf_is : ∀ {ds : List D} {ns : List Bool}, blsOf ds = some ns → ds = ns.map D.bl
  | [], _, h => by cases h; rfl
  | d :: ds, ns, h => by
    unfold blsOf at h
    split at h
    · rename_i e; cases e
    · rename_i i r e
      cases e
      obtain ⟨ms, h1, rfl⟩ := Option.map_eq_some_iff.mp h
      rw [blsOf_is h1]; rfl
    · cases h
section
variable {m : Pm} {c : Cfg}
theorem RDs.ints : ∀ {vs : List V} {ns : List Int}, RDs m c vs (ns.map D.int) → vs = ns.map V.int
  | _, [], h => by cases h; rfl
  | _, n :: ns, h => by
    cases h with
    | cons h1 h2 => cases h1; rw [RDs.ints h2]; rfl
theorem RDs.bls : ∀ {vs : List V} {ns : List Bool}, RDs m c vs (ns.map D.bl) → vs = ns.map V.bl
  | _, [], h => by cases h; rfl
  | _, n :: ns, h => by
    cases h with
    | cons h1 h2 => cases h1; rw [RDs.bls h2]; rfl
end
section
variable {X : Cx} {tb : Tb}
theorem cr_sumT (hc : X.calm = true) : CallR X (.builtin "sum") (fun vs H Q => ∃ (a : Addr) (ns : List Int), vs = [V.ref a] ∧ SqT X.K H a (ns.map V.int) ∧ Q (.int ns.sum) H) := by
  intro pins s σ H vs us Q I r h
  obtain ⟨a, ns, rfl, hs, q⟩ := h
  obtain ⟨its, rv, ht, _⟩ := I.tuple hs
  rw [Vals.ref1 r]
  obtain ⟨o, ho, hcl, n, hd⟩ := ht
  obtain ⟨xs, hx⟩ := rv.ints.allInts.items
  have hn : numsOf its.toArray.toList = ns := by rw [show its.toArray.toList = its from rfl, rv.ints.numsOf]
  rw [hx] at hd hn
  rw [nums_intItems] at hn
  refine PySem.W.ktm_sumG (xs := xs) (I.ok.hd hc) ⟨o, ho, hcl, n, hd⟩ fun h' tk t' hk => ⟨.int _, H, I.kept hk, ⟨_, rfl⟩, ?_⟩
  rw [preSum_eq, List.take_of_length_le (by simp), hn]
  exact q
def rSum2 (m : Pm) : List V → Hp → VK → Prop := fun vs H Q => ∃ c S x d ns, vs = [x] ∧ Wd m c H S ∧ RT m c H x d ∧ (D.seq d).bind intsOf = some ns ∧ Q (.int ns.sum) H
theorem call_sum2 (hc : X.calm = true) : CallR X (.builtin "sum") (rSum2 (mX X tb)) := by
  intro pins s σ H vs us Q I r h
  obtain ⟨c, S, x, d, ns, rfl, w, hx, hn, q⟩ := h
  cases d with
  | lst ds =>
    obtain ⟨p, ws, rfl, hp, hr⟩ := hx.lst w
    rw [intsOf_is hn] at hr
    rw [hr.ints] at hp
    exact cr_sum hc pins s σ H _ us Q I r ⟨p, ns, rfl, .of hp, q⟩
  | tup ds =>
    obtain ⟨p, ws, rfl, hp, _, hr⟩ := hx.tup w
    rw [intsOf_is hn] at hr
    rw [hr.ints] at hp
    exact cr_sumT hc pins s σ H _ us Q I r ⟨p, ns, rfl, hp, q⟩
  | _ => cases hn
theorem foldl_max : ∀ (xs : List Int) (x : Int), (xs.foldl max x ∈ x :: xs) ∧ ∀ y ∈ x :: xs, y ≤ xs.foldl max x
  | [], x => ⟨List.mem_singleton.mpr rfl, fun y hy => by rw [List.mem_singleton.mp hy]; exact Int.le_refl _⟩
  | z :: xs, x => by
    obtain ⟨h1, h2⟩ := foldl_max xs (max x z)
    rw [List.foldl_cons]
    refine ⟨?_, fun y hy => ?_⟩
    · rcases List.mem_cons.mp h1 with h | h
      · rw [h]
        rcases Int.le_total x z with l | l
        · rw [Int.max_eq_right l]; simp
        · rw [Int.max_eq_left l]; simp
      · exact List.mem_cons_of_mem _ (List.mem_cons_of_mem _ h)
    · have k := h2 (max x z) (List.mem_cons_self ..)
      rcases List.mem_cons.mp hy with rfl | hy
      · omega
      · rcases List.mem_cons.mp hy with rfl | hy
        · omega
        · exact h2 y (List.mem_cons_of_mem _ hy)
def rMax2 (m : Pm) : List V → Hp → VK → Prop := fun vs H Q => ∃ c S x ds ns k, vs = [x] ∧ Wd m c H S ∧ RT m c H x (.lst ds) ∧ intsOf ds = some ns ∧ maxI ns = some k ∧ Q (.int k) H
theorem call_max2l (hc : X.calm = true) : CallR X (.builtin "max") (rMax2 (mX X tb)) := by
  intro pins s σ H vs us Q I r h
  obtain ⟨c, S, x, ds, ns, k, rfl, w, hx, hn, hk, q⟩ := h
  obtain ⟨p, ws, rfl, hp, hr⟩ := hx.lst w
  rw [intsOf_is hn] at hr
  rw [hr.ints] at hp
  refine cr_max hc pins s σ H _ us Q I r ⟨p, ns, rfl, .of hp, ?_, fun z hz hl => ?_⟩
  · cases ns with
    | nil => cases hk
    | cons a b => exact Nat.succ_pos _
  · cases ns with
    | nil => cases hk
    | cons a b =>
      cases hk
      obtain ⟨h1, h2⟩ := foldl_max b a
      have : z = b.foldl max a := Int.le_antisymm (h2 z hz) (hl _ h1)
      rw [this]
      exact q
def rAll2 (m : Pm) : List V → Hp → VK → Prop := fun vs H Q => ∃ c S x ds bs, vs = [x] ∧ Wd m c H S ∧ RT m c H x (.lst ds) ∧ blsOf ds = some bs ∧ Q (.bl (bs.all id)) H
theorem call_all2 (hc : X.calm = true) : CallR X (.builtin "all") (rAll2 (mX X tb)) := by
  intro pins s σ H vs us Q I r h
  obtain ⟨c, S, x, ds, bs, rfl, w, hx, hn, q⟩ := h
  obtain ⟨p, ws, rfl, hp, hr⟩ := hx.lst w
  rw [blsOf_is hn] at hr
  rw [hr.bls] at hp
  exact cr_all hc pins s σ H _ us Q I r ⟨p, bs, rfl, .of hp, q⟩
/-- tuple(x) -/
def rToTup (m : Pm) : List V → Hp → VK → Prop := fun vs H Q => ∃ c S x d ds, vs = [x] ∧ Wd m c H S ∧ RT m c H x d ∧ D.seq d = some ds ∧ K1 m c H S (.val (.tup ds)) Q
theorem call_toTup : CallR X (.type "tuple") (rToTup (mX X tb)) := by
  intro pins s σ H vs us Q I r h
  obtain ⟨c, S, x, d, ds, rfl, w, hx, hd, q⟩ := h
  cases d with
  | lst es =>
    cases hd
    obtain ⟨p, ws, rfl, hp, hr⟩ := hx.lst w
    exact call_tuple_of pins s σ H _ us Q I r ⟨p, ws, rfl, .inl ⟨.of hp, fun l hl => k_newT q w hr hl⟩⟩
  | tup es =>
    cases hd
    obtain ⟨p, ws, rfl, hp, hg, hr⟩ := hx.tup w
    exact call_tuple_of pins s σ H _ us Q I r ⟨p, ws, rfl, .inr ⟨hp, k_val q w (.tup hg hr)⟩⟩
  | _ => cases hd

theorem RDs.drop {m : Pm} {c : Cfg} : ∀ (n : Nat) {vs : List V} {ds : List D}, RDs m c vs ds → RDs m c (vs.drop n) (ds.drop n)
  | 0, _, _, h => by rw [List.drop_zero, List.drop_zero]; exact h
  | n + 1, _, _, .nil => by rw [List.drop_nil, List.drop_nil]; exact .nil
  | n + 1, _, _, .cons h1 h2 => by rw [List.drop_succ_cons, List.drop_succ_cons]; exact RDs.drop n h2
theorem RDs.take {m : Pm} {c : Cfg} : ∀ (n : Nat) {vs : List V} {ds : List D}, RDs m c vs ds → RDs m c (vs.take n) (ds.take n)
  | 0, _, _, h => by rw [List.take_zero, List.take_zero]; exact .nil
  | n + 1, _, _, .nil => by rw [List.take_nil, List.take_nil]; exact .nil
  | n + 1, _, _, .cons h1 h2 => by rw [List.take_succ_cons, List.take_succ_cons]; exact .cons h1 (RDs.take n h2)
theorem RDs.cut {m : Pm} {c : Cfg} {vs : List V} {ds : List D} (h : RDs m c vs ds) (lo hi : Option Int) : RDs m c (cutV vs lo hi) (cutD ds lo hi) := by
  unfold cutV cutD
  rw [h.length]
  exact (h.drop _).take _
def rSl2 (m : Pm) : V → Option Int → Option Int → Hp → VK → Prop := fun x lo hi H Q => ∃ c S d r, Wd m c H S ∧ RT m c H x d ∧ sliceD d lo hi = some r ∧ K1 m c H S r Q
theorem sl_2 : L2.SlR X (rSl2 (mX X tb)) := by
  intro pins s σ H x v vl vu lo hi sl Q I rx hs pl pu h
  obtain ⟨c, S, d, r, w, hx, hd, q⟩ := h
  cases d with
  | tup ds =>
    cases hd
    obtain ⟨p, ws, rfl, hp, hg, hr⟩ := hx.tup w
    refine sl_tupA pins s σ H _ v vl vu lo hi sl Q I rx hs pl pu ⟨p, ws, rfl, hp, fun hw => ?_, fun _ l hl => k_newT q w (hr.cut lo hi) hl⟩
    rw [hr.length] at hw
    have e : cutD ds lo hi = ds := by
      unfold cutD
      rw [hw.1, hw.2, List.drop_zero, Nat.sub_zero, List.take_length]
    rw [e] at q
    exact k_val q w (.tup hg hr)
  | lst ds =>
    cases hd
    obtain ⟨p, ws, rfl, hp, hr⟩ := hx.lst w
    exact sl_list pins s σ H _ v vl vu lo hi sl Q I rx hs pl pu ⟨p, ws, rfl, .of hp, fun l hl => k_newL q w (hr.cut lo hi) hl⟩
  | _ => cases hd

/-- a builtin of one argument -/
def rBlt (m : Pm) (b : Nat) : List V → Hp → VK → Prop := fun vs H Q => ∃ c S x d r, vs = [x] ∧ Wd m c H S ∧ RT m c H x d ∧ bltop b d = some r ∧ K1 m c H S r Q
theorem call_blt0 (hc : X.calm = true) : CallR X (.builtin "sum") (rBlt (mX X tb) 0) := by
  intro pins s σ H vs us Q I r h
  obtain ⟨c, S, x, d, z, e, w, hx, hb, q⟩ := h
  obtain ⟨ns, hn, rfl⟩ := Option.map_eq_some_iff.mp (show ((D.seq d).bind intsOf).map (fun ns => Rv.val (.int ns.sum)) = some z from hb)
  exact call_sum2 hc pins s σ H vs us Q I r ⟨c, S, x, d, ns, e, w, hx, hn, k_val q w (.int _)⟩
theorem call_blt1 (hc : X.calm = true) : CallR X (.builtin "max") (rBlt (mX X tb) 1) := by
  intro pins s σ H vs us Q I r h
  obtain ⟨c, S, x, d, z, e, w, hx, hb, q⟩ := h
  cases d with
  | lst ds =>
    obtain ⟨k, hk, rfl⟩ := Option.map_eq_some_iff.mp (show ((intsOf ds).bind maxI).map (fun k => Rv.val (.int k)) = some z from hb)
    obtain ⟨ns, h1, h2⟩ := Option.bind_eq_some_iff.mp hk
    exact call_max2l hc pins s σ H vs us Q I r ⟨c, S, x, ds, ns, k, e, w, hx, h1, h2, k_val q w (.int _)⟩
  | _ => cases hb
theorem call_blt2 (hc : X.calm = true) : CallR X (.builtin "all") (rBlt (mX X tb) 2) := by
  intro pins s σ H vs us Q I r h
  obtain ⟨c, S, x, d, z, e, w, hx, hb, q⟩ := h
  cases d with
  | lst ds =>
    obtain ⟨k, hk, rfl⟩ := Option.map_eq_some_iff.mp (show (blsOf ds).map (fun k => Rv.val (.bl (k.all id))) = some z from hb)
    exact call_all2 hc pins s σ H vs us Q I r ⟨c, S, x, ds, k, e, w, hx, hk, k_val q w (.bl _)⟩
  | _ => cases hb
theorem call_blt3 : CallR X (.type "tuple") (rBlt (mX X tb) 3) := by
  intro pins s σ H vs us Q I r h
  obtain ⟨c, S, x, d, z, e, w, hx, hb, q⟩ := h
  obtain ⟨ds, hn, rfl⟩ := Option.map_eq_some_iff.mp (show (D.seq d).map (fun ds => Rv.val (.tup ds)) = some z from hb)
  exact call_toTup pins s σ H vs us Q I r ⟨c, S, x, d, ds, e, w, hx, hn, q⟩
theorem call_blt4 (hc : X.calm = true) : CallR X (.builtin "any") (rBlt (mX X tb) 4) := by
  intro pins s σ H vs us Q I r h
  obtain ⟨c, S, x, d, z, rfl, w, hx, hb, q⟩ := h
  cases d with
  | lst ds =>
    obtain ⟨bs, hn, rfl⟩ := Option.map_eq_some_iff.mp (show (blsOf ds).map (fun k => Rv.val (.bl (k.any id))) = some z from hb)
    obtain ⟨p, ws, rfl, hp, hr⟩ := hx.lst w
    rw [blsOf_is hn] at hr
    rw [hr.bls] at hp
    exact cr_any hc pins s σ H _ us Q I r ⟨p, bs, rfl, .of hp, k_val q w (.bl _)⟩
  | _ => cases hb
theorem call_blt8 : CallR X (.type "str") (rBlt (mX X tb) 8) := by
  intro pins s σ H vs us Q I r h
  obtain ⟨c, S, x, d, z, rfl, w, hx, hb, q⟩ := h
  cases d with
  | int i =>
    cases hx.int
    have hb : (if decide (i.natAbs < 1000000) then some (Rv.val (.str (toString i : String))) else none) = some z := hb
    split at hb
    · rename_i hl
      cases hb
      have hl : i.natAbs < 1000000 := of_decide_eq_true hl
      refine call_str_int pins s σ H _ us Q I r ⟨i, rfl, ?_, k_val q w (.str _)⟩
      by_cases h0 : i.natAbs = 0
      · rw [h0]; decide
      · exact Nat.lt_of_lt_of_le ((Nat.log2_lt h0).mpr (Nat.lt_of_lt_of_le hl (by decide : 1000000 ≤ 2 ^ 20))) (by decide)
    · cases hb
  | str a =>
    cases hb
    cases hx.str
    exact SkE.call_str_str pins s σ H _ us Q I r ⟨a, rfl, k_val q w (.str _)⟩
  | _ => cases hb
/-! min of data -/
mutual
theorem py_inj : ∀ (a b : D) (p : PyData), py a = some p → py b = some p → a = b
  | .non, b, p, h1, h2 => by
    cases h1
    cases b with
    | non => rfl
    | tup ys => have h2 : (pyAll ys).map PyData.tuple = some _ := h2; cases e : pyAll ys <;> rw [e] at h2 <;> cases h2
    | lst ys => have h2 : (pyAll ys).map PyData.list = some _ := h2; cases e : pyAll ys <;> rw [e] at h2 <;> cases h2
    | _ => cases h2
  | .bl x, b, p, h1, h2 => by
    cases h1
    cases b with
    | bl y => cases h2; rfl
    | tup ys => have h2 : (pyAll ys).map PyData.tuple = some _ := h2; cases e : pyAll ys <;> rw [e] at h2 <;> cases h2
    | lst ys => have h2 : (pyAll ys).map PyData.list = some _ := h2; cases e : pyAll ys <;> rw [e] at h2 <;> cases h2
    | _ => cases h2
  | .int x, b, p, h1, h2 => by
    cases h1
    cases b with
    | int y => cases h2; rfl
    | tup ys => have h2 : (pyAll ys).map PyData.tuple = some _ := h2; cases e : pyAll ys <;> rw [e] at h2 <;> cases h2
    | lst ys => have h2 : (pyAll ys).map PyData.list = some _ := h2; cases e : pyAll ys <;> rw [e] at h2 <;> cases h2
    | _ => cases h2
  | .str x, b, p, h1, h2 => by
    cases h1
    cases b with
    | str y => cases h2; rfl
    | tup ys => have h2 : (pyAll ys).map PyData.tuple = some _ := h2; cases e : pyAll ys <;> rw [e] at h2 <;> cases h2
    | lst ys => have h2 : (pyAll ys).map PyData.list = some _ := h2; cases e : pyAll ys <;> rw [e] at h2 <;> cases h2
    | _ => cases h2
  | .tup xs, b, p, h1, h2 => by
    obtain ⟨ps, e1, rfl⟩ := Option.map_eq_some_iff.mp (show (pyAll xs).map PyData.tuple = some p from h1)
    cases b with
    | tup ys =>
      obtain ⟨qs, e2, e3⟩ := Option.map_eq_some_iff.mp (show (pyAll ys).map PyData.tuple = some _ from h2)
      cases e3
      rw [py_injAll xs ys _ e1 e2]
    | lst ys => have h2 : (pyAll ys).map PyData.list = some _ := h2; cases e : pyAll ys <;> rw [e] at h2 <;> cases h2
    | _ => cases h2
  | .lst xs, b, p, h1, h2 => by
    obtain ⟨ps, e1, rfl⟩ := Option.map_eq_some_iff.mp (show (pyAll xs).map PyData.list = some p from h1)
    cases b with
    | lst ys =>
      obtain ⟨qs, e2, e3⟩ := Option.map_eq_some_iff.mp (show (pyAll ys).map PyData.list = some _ from h2)
      cases e3
      rw [py_injAll xs ys _ e1 e2]
    | tup ys => have h2 : (pyAll ys).map PyData.tuple = some _ := h2; cases e : pyAll ys <;> rw [e] at h2 <;> cases h2
    | _ => cases h2
  | .dct _, _, _, h1, _ => by cases h1
  | .ins _ _, _, _, h1, _ => by cases h1
  | .obj _, _, _, h1, _ => by cases h1
  | .scr _, _, _, h1, _ => by cases h1
theorem py_injAll : ∀ (xs ys : List D) (ps : List PyData), pyAll xs = some ps → pyAll ys = some ps → xs = ys
  | [], ys, ps, h1, h2 => by
    cases h1
    cases ys with
    | nil => rfl
    | cons y ys =>
      unfold pyAll at h2
      split at h2 <;> cases h2
  | x :: xs, ys, ps, h1, h2 => by
    unfold pyAll at h1
    split at h1
    · rename_i a as e1 e2
      cases h1
      cases ys with
      | nil => cases h2
      | cons y ys =>
        unfold pyAll at h2
        split at h2
        · rename_i b bs e3 e4
          cases h2
          rw [py_inj x y _ e1 e3, py_injAll xs ys _ e2 e4]
        · cases h2
    · cases h1
end
theorem py_fold : ∀ (xs : List D) (x : D) (px : PyData) (ps : List PyData), py x = some px → pyAll xs = some ps → py (xs.foldl (fun a y => if ltB y a then y else a) x) = some (ps.foldl (fun a y => if PySem.W.dataLt y a then y else a) px)
  | [], x, px, ps, h1, h2 => by
    cases h2
    exact h1
  | y :: xs, x, px, ps, h1, h2 => by
    unfold pyAll at h2
    split at h2
    · rename_i py' as e1 e2
      cases h2
      rw [List.foldl_cons, List.foldl_cons]
      have hl : ltB y x = PySem.W.dataLt py' px := by
        unfold ltB
        rw [e1, h1]
      refine py_fold xs _ _ as ?_ e2
      rw [hl]
      split
      · exact e1
      · exact h1
    · cases h2
theorem pyAll_at : ∀ {xs : List D} {ps : List PyData} {i : Nat} {x : D}, pyAll xs = some ps → xs[i]? = some x → ∃ p, ps[i]? = some p ∧ py x = some p
  | [], _, _, _, _, h => by simp at h
  | y :: xs, ps, i, x, h1, h => by
    unfold pyAll at h1
    split at h1
    · rename_i a as e1 e2
      cases h1
      cases i with
      | zero => simp at h; subst h; exact ⟨a, rfl, e1⟩
      | succ i =>
        obtain ⟨p, z1, z2⟩ := pyAll_at (i := i) e2 (by simpa using h)
        exact ⟨p, by simpa using z1, z2⟩
    · cases h1
theorem alike_of {ps : List PyData} (h : alikeB ps = true) : PySem.W.AlikeAll ps ∧ PyData.depthAll ps ≤ 50 := by
  unfold alikeB at h
  simp only [Bool.and_eq_true, decide_eq_true_eq, List.all_eq_true, Bool.not_eq_true'] at h
  refine ⟨⟨fun x hx y hy => h.1.1 x hx y hy, fun x hx e => ?_⟩, h.2⟩
  have := h.1.2 x hx
  rw [e] at this
  cases this
theorem vals_back : ∀ {vs : List V} {us : List Value} {i : Nat} {u : Value}, Vals vs us → us[i]? = some u → ∃ v, vs[i]? = some v ∧ RelV v u
  | _, _, _, _, .nil, h => by simp at h
  | _, _, 0, _, .cons r _, h => by simp at h; subst h; exact ⟨_, rfl, r⟩
  | _, _, i + 1, _, .cons _ r, h => by
    obtain ⟨v, e, q⟩ := vals_back (i := i) r (by simpa using h)
    exact ⟨v, by simpa using e, q⟩
theorem rds_back : ∀ {m : Pm} {c : Cfg} {vs : List V} {ds : List D} {i : Nat} {v : V}, RDs m c vs ds → vs[i]? = some v → ∃ d, ds[i]? = some d ∧ RD m c v d
  | _, _, _, _, _, _, .nil, h => by simp at h
  | _, _, _, _, 0, _, .cons r _, h => by simp at h; subst h; exact ⟨_, rfl, r⟩
  | _, _, _, _, i + 1, _, .cons _ r, h => by
    obtain ⟨v, e, q⟩ := rds_back (i := i) r (by simpa using h)
    exact ⟨v, by simpa using e, q⟩
theorem reads_at : ∀ {h : Heap} {vs : List Value} {xs : List PyData} {as : List Addr} {i : Nat} {v : Value} {x : PyData}, ReadsAll h vs xs as → vs[i]? = some v → xs[i]? = some x → ∃ bs, Reads h v x bs
  | _, _, _, _, _, _, _, .nil, h, _ => by simp at h
  | _, _, _, _, 0, _, _, .cons r _, h1, h2 => by simp at h1 h2; subst h1 h2; exact ⟨_, r⟩
  | _, _, _, _, i + 1, _, _, .cons _ r, h1, h2 => reads_at (i := i) r (by simpa using h1) (by simpa using h2)
theorem call_blt5 (hc : X.calm = true) (hu : X.A.units + 64 < cLine) : CallR X (.builtin "min") (rBlt (mX X tb) 5) := by
  intro pins s σ H vs us Q I r h
  obtain ⟨c, S, x, d, z, rfl, w, hx, hb, q⟩ := h
  cases d with
  | lst ds =>
    obtain ⟨d0, hm, rfl⟩ := Option.map_eq_some_iff.mp (show (minL ds).map (fun d => Rv.val d) = some z from hb)
    cases ds with
    | nil => cases hm
    | cons d1 ds =>
    have hm : (match pyAll (d1 :: ds) with
      | some ps => if alikeB ps then some (ds.foldl (fun a y => if ltB y a then y else a) d1) else none
      | none => none) = some d0 := hm
    split at hm
    · rename_i ps hps
      split at hm
      · rename_i hal
        cases hm
        obtain ⟨hal, hdp⟩ := alike_of hal
        obtain ⟨p, ws, rfl, hp, hr⟩ := hx.lst w
        obtain ⟨u, rfl, ru⟩ := vals1 r
        cases ru
        obtain ⟨its, rv, pl, hz⟩ := I.list (SqL.of hp)
        obtain ⟨as, hra⟩ := Dp.readsAll I ps ws its (RDs.dp w _ ws ps hr hps) rv
        have hps0 := hps
        unfold pyAll at hps
        split at hps
        · rename_i a0 as0 e1 e2
          cases hps
          have hf := py_fold ds d1 a0 as0 e1 e2
          refine PySem.W.min_list_data (I.ok.hd hc) pl.isList (by simpa using hra) hal (by omega) fun i v h' tk bs hv hrd hk => ?_
          have hv : its[i]? = some v := by simpa using hv
          obtain ⟨wv, h1, rw1⟩ := vals_back rv hv
          obtain ⟨di, h2, rd⟩ := rds_back hr h1
          obtain ⟨pi, h3, h4⟩ := pyAll_at hps0 h2
          obtain ⟨bs', r2⟩ := reads_at hra hv h3
          have r3 := PyProof.Rows.Reads.keeps hk r2
          have e := (PySem.Reads.unique r3 _ _ hrd).1
          subst e
          have : di = ds.foldl (fun a y => if ltB y a then y else a) d1 := py_inj _ _ _ h4 hf
          subst this
          exact ⟨wv, H, I.kept (t' := tk) hk, rw1, k_val q w rd⟩
        · cases hps
      · cases hm
    · cases hm
  | _ => cases hb
end
end R

set_option maxHeartbeats 1000000
/-! Own ==, targets, comprehensions. -/
namespace R
open PySem L2
abbrev noW : WX := fun _ _ _ _ => False
section
variable {X : Cx} {tb : Tb} {n : Nm} {T : Tab} {C : Calls} {k : Nat}
def rEqOwn (m : Pm) (T : Tab) (C : Calls) (f c' : Nat) : R2 := fun x y H Q => ∃ c S ds d, Wd m c H S ∧ RD m c x (.ins c' ds) ∧ RD m c y d ∧ okTy T d = true ∧ match C f [.ins c' ds, d] S with
  | .ok (.val (.bl q)) S' => ∀ c2 H', Step c H c2 H' → Wd m c2 H' S' → Q (.bl q) H'
  | _ => False
theorem op_eqOwn (F : Facts (mX X tb) X.mg X.base n T C k) (hr : Room k X.A) {f c' : Nat} (hk : n.kd f = some (.eq c')) : OpR X (compareOp .Eq) (rEqOwn (mX X tb) T C f c') := by
  intro pins s σ H x y v u Q I rx ry h
  obtain ⟨c, S, ds, d, w, hx, hy, ok, q⟩ := h
  obtain ⟨hc, fa, fd, ps, hs, hf, hb, ar, G⟩ := F.eq f c' hk
  have hx0 := hx
  cases hx with
  | ins h1 h2 h3 =>
    rename_i p dx vs
    cases rx
    obtain ⟨mA, O, _⟩ := ins_get I.hok (w.le _ _ h1)
    obtain ⟨od, J, _⟩ := O.look
    obtain ⟨P, Z, hP, _⟩ := kit_RT F I w ry (.val hy) ok
    obtain ⟨m, hF⟩ := I.fr
    show wpAny (model X.prog X.w) X.A (richCompare .Eq (.ref p) u) (EP X pins σ Q) X.xe s
    refine PySem.W.cmp_K (op := .Eq) hr.units0 hF I.ok.mod.kin J (Z.ty _ _ I.kIn hP) (cls_kit F hc ok).2 hs hf ?_
    have r2 : Vals [V.ref p, y] [Value.ref p, u] := .cons rfl (.cons ry .nil)
    have two : ps.length = 2 := by
      rcases ar [.ins c' ds, d] S with e | e
      · rw [e] at q; exact q.elim
      · exact e.symm
    have hsp : spF (mX X tb) C f ps.length [V.ref p, y] H (fun v H' => ∃ q, v = .bl q ∧ Q (.bl q) H') E0 := by
      refine ⟨c, [.ins c' ds, d], S, w, .cons hx0 (.cons hy .nil), two.symm, ?_⟩
      cases e : C f [.ins c' ds, d] S with
      | bad => rw [e] at q; exact q
      | exc _ _ _ => rw [e] at q; exact q.elim
      | ok r S' =>
        rw [e] at q
        cases r with
        | own _ => exact q.elim
        | tmp _ => exact q.elim
        | val d0 =>
          cases d0 with
          | bl b =>
            intro c2 H' v s' w' x'
            cases x' with
            | val x' => cases x'; exact ⟨b, rfl, q c2 H' s' w'⟩
          | _ => exact q.elim
    have hbd := hb s [.ref p, u] I.kIn (by rw [List.append_nil]; exact two.symm)
    rw [List.append_nil] at hbd
    refine wpAny_call (codeAny_mono (G.run X.A X.stack s H ⟨[.ref p, u], []⟩ [.ref p, u] [.ref p, y] _ E0 hr I.env0 hbd r2 hsp) fun r s' hq => ?_)
    cases r with
    | error e => exact passL pins σ H s e s' I hq
    | ok fl =>
      cases fl with
      | ret w' =>
        obtain ⟨z, H', I', rz, b, ez, q'⟩ := I.after hq
        subst ez
        cases rz
        exact ⟨.bl b, H', I', rfl, q'⟩
      | next => exact False.elim hq
      | brk => exact False.elim hq
      | cont => exact False.elim hq
/-- len(x), x of a class with a __len__ -/
def rLenO (m : Pm) (C : Calls) (f c' : Nat) : List V → Hp → VK → Prop := fun xs H Q => ∃ c S d p dx fs, xs = [V.ref p] ∧ Wd m c H S ∧ RD m c (.ref p) d ∧ H p = some (.ins (m.cl c') dx fs) ∧ match C f [d] S with
  | .ok (.val (.int n)) S' => 0 ≤ n ∧ n ≤ 1000000 ∧ ∀ c2 H', Step c H c2 H' → Wd m c2 H' S' → Q (.int n) H'
  | _ => False
theorem call_lenO (F : Facts (mX X tb) X.mg X.base n T C k) (hr : Room (k + 1) X.A) {f c' : Nat} (hk : n.kd f = some (.meth c' "__len__")) : CallR X (.builtin "len") (rLenO (mX X tb) C f c') := by
  intro pins s σ H xs us Q I r h
  obtain ⟨c, S, d, p, dx, fs, rfl, w, hd, hp, q⟩ := h
  obtain ⟨u, rfl, ru⟩ := vals1 r
  obtain rfl : u = Value.ref p := ru
  obtain ⟨fa, fd, ps, M, Cl, hno, hb, ar, G⟩ := F.meth f c' _ hk
  obtain ⟨mA, O, _⟩ := ins_get I.hok hp
  obtain ⟨od, J, _⟩ := O.look
  obtain ⟨m, hF⟩ := I.fr
  refine PySem.W.len_K hF I.ok.mod.kin J M.mt.at_ M.mt.fn ?_
  have one : ps.length = 1 := by
    rcases ar [d] S with e | e
    · rw [e] at q; exact q.elim
    · exact e.symm
  have hsp : spF (mX X tb) C f ps.length [V.ref p] H (fun v H' => ∃ n : Int, v = .int n ∧ 0 ≤ n ∧ n ≤ 1000000 ∧ Q (.int n) H') E0 := by
    refine ⟨c, [d], S, w, .cons hd .nil, one.symm, ?_⟩
    cases e : C f [d] S with
    | bad => rw [e] at q; exact q
    | exc _ _ _ => rw [e] at q; exact q.elim
    | ok r S' =>
      rw [e] at q
      cases r with
      | own _ => exact q.elim
      | tmp _ => exact q.elim
      | val d0 =>
        cases d0 with
        | int z =>
          intro c2 H' v s' w' x'
          cases x' with
          | val x' => cases x'; exact ⟨z, rfl, q.1, q.2.1, q.2.2 c2 H' s' w'⟩
        | _ => exact q.elim
  have hbd := hb s [.ref p] I.kIn (by rw [List.append_nil]; exact one.symm)
  rw [List.append_nil] at hbd
  refine wpAny_call (codeAny_mono (G.run X.A.in1 X.stack s H ⟨[.ref p], []⟩ [.ref p] [.ref p] _ E0 hr.in1 I.env0.in1 hbd (.cons rfl .nil) hsp) fun r s' hq => ?_)
  cases r with
  | error e => exact passL pins σ H s e s' I hq
  | ok fl =>
    cases fl with
    | ret w' =>
      obtain ⟨z, H', I', rz, n, ez, q1, q2, q'⟩ := I.after hq
      subst ez
      obtain ⟨t, rfl⟩ := rz
      exact ⟨⟨q1, by omega⟩, .int n, H', I'.tok _, ⟨_, rfl⟩, q'⟩
    | next => exact False.elim hq
    | brk => exact False.elim hq
    | cont => exact False.elim hq
end

/-! ### targets -/
def gTgs : List Nat → TGs
  | [] => gNil
  | i :: is => gCons (gName i) (gTgs is)
def gTg (K : PySem.W.Frag) : List Nat → TG
  | [i] => gName i
  | is => gTup K is.length (gTgs is)
theorem gTg_many (K : PySem.W.Frag) : ∀ {is : List Nat}, ¬ is.length = 1 → gTg K is = gTup K is.length (gTgs is)
  | [], _ => rfl
  | [_], h => absurd rfl h
  | _ :: _ :: _, _ => rfl
theorem gTgs_of : ∀ {is : List Nat} {us : List V} {σ : St} {H : Hp} {Q : St → Hp → Prop}, us.length = is.length → Q (setAll σ is us) H → gTgs is us σ H Q
  | [], [], _, _, _, _, q => ⟨rfl, q⟩
  | [], _ :: _, _, _, _, h, _ => by cases h
  | _ :: _, [], _, _, _, h, _ => by cases h
  | i :: is, u :: us, σ, H, Q, h, q => ⟨u, us, rfl, gTgs_of (is := is) (by simpa using h) q⟩
/-- the slots are open for stores -/
def StoOk (X : Cx) (sc : Scope) : Prop := ∀ x, (sc.names.lookup x = some .local ∨ sc.names.lookup x = some .cell) → Loc X.env.scope x ∧ (X.fn x = true ∨ X.env.scope.names.lookup x = some .local)
theorem loc_cases {sc : Scope} {x : Str} (h : locB sc x = true) : sc.names.lookup x = some .local ∨ sc.names.lookup x = some .cell := by
  unfold locB at h
  split at h
  · exact .inl (by assumption)
  · exact .inr (by assumption)
  · cases h
theorem pgs_of {X : Cx} {N : List Str} {sc : Scope} (hN : X.N = N) (nd : N.Nodup) (so : StoOk X sc) : ∀ {is : List Nat} {es : List Expr}, tgsB N sc is es = true → PGs X es (gTgs is) ∧ (assignEach es X.env).length = is.length ∧ (assignEach es X.env).findIdx? (·.1) = none
  | [], [], _ => ⟨pgs_nil, rfl, rfl⟩
  | i :: is, .Name x p :: es, h => by
    unfold tgsB at h
    simp only [Bool.and_eq_true, decide_eq_true_eq] at h
    obtain ⟨a, b, d⟩ := pgs_of hN nd so h.2
    obtain ⟨l1, l2⟩ := so x (loc_cases h.1.2)
    refine ⟨pgs_cons (pg_name (by rw [hN]; exact nd) (by rw [hN]; exact h.1.1) l1 l2) a, ?_, ?_⟩
    · show (assignEach es X.env).length + 1 = is.length + 1
      rw [b]
    · show ((false, assign (.Name x p) X.env) :: assignEach es X.env).findIdx? (·.1) = none
      rw [List.findIdx?_cons]
      simp [d]
  | [], _ :: _, h => by cases h
  | i :: is, [], h => by cases h
  | i :: is, e :: es, h => by
    cases e <;> first | (cases h; done) | skip
    unfold tgsB at h
    simp only [Bool.and_eq_true, decide_eq_true_eq] at h
    obtain ⟨a, b, d⟩ := pgs_of hN nd so h.2
    obtain ⟨l1, l2⟩ := so _ (loc_cases h.1.2)
    refine ⟨pgs_cons (pg_name (by rw [hN]; exact nd) (by rw [hN]; exact h.1.1) l1 l2) a, ?_, ?_⟩
    · show (assignEach es X.env).length + 1 = is.length + 1
      rw [b]
    · rename_i x p
      show ((false, assign (.Name x p) X.env) :: assignEach es X.env).findIdx? (·.1) = none
      rw [List.findIdx?_cons]
      simp [d]
theorem pg_of {X : Cx} {N : List Str} {sc : Scope} (hN : X.N = N) (nd : N.Nodup) (hc : X.calm = true) (so : StoOk X sc) {is : List Nat} {e : Expr} (h : tgB N sc is e = true) : PG X e (gTg X.K is) := by
  cases e <;> first | (cases h; done) | skip
  · rename_i x p
    match is, h with
    | [i], h =>
      have h : (decide (N[i]? = some x) && locB sc x) = true := h
      simp only [Bool.and_eq_true, decide_eq_true_eq] at h
      obtain ⟨l1, l2⟩ := so _ (loc_cases h.2)
      exact pg_name (by rw [hN]; exact nd) (by rw [hN]; exact h.1) l1 l2
    | [], h => cases h
    | _ :: _ :: _, h => cases h
  · rename_i es k p
    have h : ((is.length != 1) && tgsB N sc is es) = true := h
    simp only [Bool.and_eq_true, bne_iff_ne, ne_eq] at h
    obtain ⟨a, b, d⟩ := pgs_of hN nd so h.2
    rw [gTg_many X.K h.1]
    exact pg_tup hc a b d
/-- what a target stores -/
theorem gTg_of {m : Pm} {c : Cfg} {H : Hp} {S : Store} {ρ ρ1 : REnv} {σ : St} {is : List Nat} {d : D} {v : V} {me : Addr} {He : Hp} {pin : Pin} {Q : St → Hp → Prop} (w : Wd m c H S) (E : EnvR m c H pin me He ρ σ) (h : put ρ is d = some ρ1) (r : RD m c v d)
    (q : ∀ us : List V, us.length = is.length → EnvR m c H pin me He ρ1 (setAll σ is us) → Q (setAll σ is us) H) : gTg m.K is v σ H Q := by
  have many : ¬ is.length = 1 → putT ρ is d = some ρ1 → gTg m.K is v σ H Q := fun n1 h => by
    rw [gTg_many m.K n1]
    cases r with
    | tup h1 h2 =>
      rename_i p vs xs _
      have h : (if xs.length = is.length then some (putAll ρ is xs) else none) = some ρ1 := h
      split at h
      · rename_i hl
        cases h
        have l : vs.length = is.length := by rw [h2.length, hl]
        exact ⟨p, vs, rfl, sqT_mono w.le h1, l, gTgs_of l (q vs l (E.setAll h2))⟩
      · cases h
    | _ => cases h
  match is, h, many with
  | [i], h, _ =>
    cases h
    exact q [v] rfl (E.set r _)
  | [], h, many => exact many (by decide) h
  | i :: j :: is, h, many => exact many (by simp) h
end R

set_option maxHeartbeats 1000000
/-! A comprehension. -/
namespace R
open PySem L2

def tT (T : Tab) (C : Calls) (m : Pm) (pin : Pin) (W : WX) (e : E) : TT := fun σ H R => tI T C m pin W e σ H fun v H1 => ∃ b, v = .bl b ∧ R b H1
section
variable {T : Tab} {C : Calls} {m : Pm} {c c₀ c₁ c₂ : Cfg} {H H₀ H₁ H₂ He : Hp} {S S₁ : Store} {p me : Addr} {pin : Pin} {ρ : REnv} {σ : St} {W : WX} {Q : VK}
theorem yes_of {R : Bool → Hp → Prop} (h : tT T C m pin W (.cst (.bl true)) σ H R) : tYes σ H R := by
  obtain ⟨c, ρ, S, me, He, E, w, h⟩ := h
  obtain ⟨b, e, q⟩ := h c H (.bl true) (Step.refl c H) w (.val (.bl true))
  cases e
  exact q
def cF (T : Tab) (C : Calls) (own tg : List Nat) (c elt : E) (ρ : REnv) : D → Store → Out (Option D) := fun x S => match put (wipeE ρ own) tg x with
        | some ρ1 => ((evE T C c ρ1 S).bind fun rc S1 => match rc with
          | .val (.bl true) => (evE T C elt ρ1 S1).bind fun r S2 => (match r.frz with
            | some d => .ok (some d) S2
            | none => .bad)
          | .val (.bl false) => .ok none S1
          | _ => .bad).nox
        | none => .bad
/-- the promise of an outcome that is no exception -/
theorem post_nox {out : Out Rv} {g : Rv → Store → Out (Option D)} (h : ∃ r S2, (out.bind g).nox = .ok r S2) : ∃ rv S1, out = .ok rv S1 := by
  obtain ⟨r, S2, h⟩ := h
  cases out with
  | ok a S => exact ⟨a, S, rfl⟩
  | exc _ _ _ => cases h
  | bad => cases h
theorem cF_nx {own tg : List Nat} {cc elt : E} {x : D} {k : Nat} {ds : List D} {S2 : Store} : cF T C own tg cc elt ρ x S ≠ .exc k ds S2 := by
  intro h
  unfold cF at h
  split at h
  · generalize Out.bind _ _ = o at h
    cases o <;> cases h
  · cases h
theorem loop_nx {f : D → Store → Out (Option D)} (hf : ∀ x S k ds S2, f x S ≠ .exc k ds S2) : ∀ (xs acc : List D) (S : Store) (k : Nat) (ds : List D) (S2 : Store), compLoop f xs acc S ≠ .exc k ds S2
  | [], _, _, _, _, _, h => by cases h
  | x :: xs, acc, S, k, ds, S2, h => by
    unfold compLoop at h
    cases q : f x S with
    | exc _ _ _ => exact hf _ _ _ _ _ q
    | bad => rw [q] at h; cases h
    | ok r S1 =>
      rw [q] at h
      cases r with
      | none => exact loop_nx hf _ _ _ _ _ _ h
      | some d => exact loop_nx hf _ _ _ _ _ _ h
theorem lc_of {own tg : List Nat} {it : I} {cc elt : R.E} (htg : tg.all (own.contains ·) = true) (h : tI T C m pin W (.comp1 own tg it cc elt) σ H Q) :
    tLc (wI T C m pin W it) (gTg m.K tg) (tT T C m pin noW cc) (tI T C m pin noW elt) own σ H Q := by
  obtain ⟨c, ρ, S, me, He, E, w, h⟩ := h
  refine ⟨c, ρ, S, me, He, E, w, ?_⟩
  unfold evE at h
  cases q : evI T C it ρ S with
  | bad => rw [q] at h; exact h
  | exc k ds S1 => rw [q] at h; exact h
  | ok xs S1 =>
    rw [q, Out.bind_ok] at h
    intro c1 H1 J s1 w1 wk D hD
    by_cases hlen : ¬ xs.length ≤ 100000
    · rw [if_neg hlen] at h; exact h.elim
    replace hlen := Decidable.not_not.mp hlen
    rw [if_pos hlen] at h
    have h : Post m W c H σ ((compLoop (cF T C own tg cc elt ρ) xs [] S1).bind fun ds S2 => .ok (.own (.lst ds)) S2) Q := h
    refine ⟨fun i n H2 => n = xs.length - i ∧ i ≤ xs.length ∧ ∃ c2 S2 acc vs, Step c1 H1 c2 H2 ∧ Wd m c2 H2 S2 ∧ H2 D = some (.lst vs) ∧ c2.G D = none ∧ D ∉ c2.A ∧ RDs m c2 vs acc ∧ acc.length ≤ i ∧ compLoop (cF T C own tg cc elt ρ) (xs.drop i) acc S2 = compLoop (cF T C own tg cc elt ρ) xs [] S1, ⟨_, rfl, Nat.zero_le _, ?_⟩, ?_⟩
    · obtain ⟨s2, w2⟩ := step_new (o := .lst []) w1 hD
      obtain ⟨nA, nG⟩ := w1.new hD
      exact ⟨c1, S1, [], [], s2, w2, upd_same, nG, nA, .nil, Nat.zero_le _, by rw [List.drop_zero]⟩
    rintro i n H2 ⟨rfl, hi, c2, S2, acc, vs, s2, w2, hL, nG, nA, rs, hacc, hloop⟩
    have wkk := wk i c2 H2 S2 s2 w2
    by_cases hlt : i < xs.length
    · have hd : xs[i]? = some xs[i] := List.getElem?_eq_getElem hlt
      obtain ⟨go, yl⟩ := wkk.1 _ hd
      refine .inr ⟨go, fun H' => i + 1 ≤ xs.length ∧ ∃ c2 S2 acc vs, Step c1 H1 c2 H' ∧ Wd m c2 H' S2 ∧ H' D = some (.lst vs) ∧ c2.G D = none ∧ D ∉ c2.A ∧ RDs m c2 vs acc ∧ acc.length ≤ i + 1 ∧ compLoop (cF T C own tg cc elt ρ) (xs.drop (i + 1)) acc S2 = compLoop (cF T C own tg cc elt ρ) xs [] S1, fun H' nx => ⟨xs.length - (i + 1), by omega, rfl, nx⟩, fun x H' y => ?_⟩
      obtain ⟨c3, s3, w3, rx⟩ := yl x H' y
      rw [List.drop_eq_getElem_cons hlt, compLoop] at hloop
      have hL3 : H' D = some (.lst vs) := s3.frame _ _ hL nA
      obtain ⟨nG3, nA3⟩ := s3.off hL nG nA
      -- no turn fails
      cases hF : cF T C own tg cc elt ρ xs[i] S2 with
      | exc _ _ _ => exact absurd hF cF_nx
      | bad => rw [hF] at hloop; rw [← hloop] at h; exact h.elim
      | ok o S3 =>
      rw [hF, Out.bind_ok] at hloop
      unfold cF at hF
      cases hp : put (wipeE ρ own) tg xs[i] with
      | none => rw [hp] at hF; cases hF
      | some ρ1 =>
      rw [hp] at hF
      simp only at hF
      have E3 := ((E.step s1).step (s2.trans s3)).wipe own
      refine gTg_of w3 E3 hp rx fun us hl E4 => ⟨?_, ?_⟩
      · refine (wipe_setAll (fun j hj => ?_) rfl).trans (wipe_idem σ own)
        have := List.all_eq_true.mp htg j hj
        simpa using this
      refine ⟨c3, ρ1, S2, me, He, E4, w3, ?_⟩
      obtain ⟨rc, S4, hc⟩ := post_nox ⟨_, _, hF⟩
      rw [hc, Out.bind_ok] at hF
      rw [hc]
      intro c4 H4 v4 s4 w4 x4
      cases rc with
      | own _ => cases hF
      | tmp _ => cases hF
      | val d =>
      cases d with
      | bl b =>
        cases x4 with
        | val x4 =>
        cases x4
        refine ⟨b, rfl, ?_⟩
        have hL4 : H4 D = some (.lst vs) := s4.frame _ _ hL3 nA3
        obtain ⟨nG4, nA4⟩ := s4.off hL3 nG3 nA3
        cases b with
        | false =>
          refine iteF ?_
          cases hF
          exact ⟨hlt, c4, _, acc, vs, (s2.trans s3).trans s4, w4, hL4, nG4, nA4, rs.le (s3.trans s4).le, Nat.le_succ_of_le hacc, hloop⟩
        | true =>
          refine iteT ?_
          have hF : ((evE T C elt ρ1 S4).bind fun r S2 => (match r.frz with
            | some d => Out.ok (some d) S2
            | none => .bad)).nox = .ok o S3 := hF
          refine ⟨c4, ρ1, S4, me, He, E4.step s4, w4, ?_⟩
          obtain ⟨re, S5, he⟩ := post_nox ⟨_, _, hF⟩
          rw [he, Out.bind_ok] at hF
          rw [he]
          intro c5 H5 v5 s5 w5 x5
          have hL5 : H5 D = some (.lst vs) := s5.frame _ _ hL4 nA4
          obtain ⟨nG5, nA5⟩ := s5.off hL4 nG4 nA4
          refine ⟨vs, hL5, ?_, ?_⟩
          · rw [rs.length]
            exact Nat.lt_of_le_of_lt hacc (Nat.lt_of_lt_of_le hlt (Nat.le_trans hlen (by decide)))
          cases hfz : re.frz with
          | none => rw [hfz] at hF; cases hF
          | some d =>
          rw [hfz] at hF
          cases hF
          have neD : ∀ q ob, v5 = .ref q → RRv m c5 H5 H4 v5 (.own ob) → q ≠ D := fun q ob e x e2 => by
            subst e e2
            cases x with
            | own _ _ _ h4 => rw [hL4] at h4; cases h4
          obtain ⟨c6, s6, w6, r6, l6, nG6, nA6⟩ : ∃ c6, Step c1 H1 c6 H5 ∧ Wd m c6 H5 S3 ∧ RD m c6 v5 d ∧ Le c5 c6 ∧ c6.G D = none ∧ D ∉ c6.A := by
            cases re with
            | tmp _ => cases hfz
            | val d0 =>
              cases hfz
              cases x5 with
              | val x5 => exact ⟨c5, ((s2.trans s3).trans s4).trans s5, w5, x5, ⟨fun _ _ h => h, [], by simp⟩, nG5, nA5⟩
            | own ob =>
              cases hfz
              have x5' := x5
              cases x5' with
              | own h1 h2 h3 h4 =>
                rename_i q
                have ne : D ≠ q := fun e => neD q ob rfl x5 e.symm
                obtain ⟨c6, s6, w6, r6, l6⟩ := x5.frz w5 s5 (d := ob.d) rfl
                cases h1 with
                | lst a b => exact ⟨c5.put _ _, step_put (((s2.trans s3).trans s4).trans s5) h2 (((s2.trans s3).trans s4).dom _ h4), wd_put w5 a h2 h3, .lst upd_same (b.le (le_put h2)), le_put h2, by show upd _ _ _ _ = _; rw [upd_ne ne]; exact nG5, nA5⟩
                | dct a b => exact ⟨c5.put _ _, step_put (((s2.trans s3).trans s4).trans s5) h2 (((s2.trans s3).trans s4).dom _ h4), wd_put w5 a h2 h3, .dct upd_same (b.le (le_put h2)), le_put h2, by show upd _ _ _ _ = _; rw [upd_ne ne]; exact nG5, nA5⟩
                | ins a b d => exact ⟨c5.put _ _, step_put (((s2.trans s3).trans s4).trans s5) h2 (((s2.trans s3).trans s4).dom _ h4), wd_put w5 a h2 h3, .ins upd_same b (d.le (le_put h2)), le_put h2, by show upd _ _ _ _ = _; rw [upd_ne ne]; exact nG5, nA5⟩
          have fD : H1 D = none := hD
          obtain ⟨s7, w7⟩ := step_mut (o := .lst (vs ++ [v5])) s6 w6 fD nG6 nA6
          exact ⟨hlt, c6, _, acc ++ [d], vs ++ [v5], s7, w7, upd_same, nG6, nA6, (rs.le ((s3.trans s4).trans s5).le |>.le l6).append (.cons r6 .nil), by simp; exact hacc, hloop⟩
      | _ => cases hF
    · refine .inl ⟨wkk.2 (by omega), ?_⟩
      rw [List.drop_eq_nil_of_le (by omega), compLoop] at hloop
      rw [← hloop] at h
      exact h c2 H2 _ (s1.trans s2) w2 (.own (.lst hL rs) nG nA (s1.dom _ hD))
end
end R

set_option maxHeartbeats 2000000
/-! Comprehensions: the readings. -/
namespace R
open PySem L2
section
variable {T : Tab} {C : Calls} {m : Pm} {c c₀ c₁ c₂ : Cfg} {H H₀ H₁ H₂ He : Hp} {S S₁ : Store} {p me D : Addr} {ρ : REnv} {σ : St} {em : REnv → Store → O → Out O} {N : Hp → Prop}
/-- a truth value, seen -/
theorem bl_of {c : Cfg} {H H0 : Hp} {v : V} {b : Bool} (h : RRv m c H H0 v (.val (.bl b))) : v = .bl b := by
  cases h with
  | val h => cases h; rfl
/-- slots, now and later -/
def EnvF (m : Pm) (c₁ : Cfg) (H₁ : Hp) (c : Cfg) (me : Addr) (He : Hp) (ρ : REnv) (σ : St) : Prop := ∀ c' H', Step c₁ H₁ c' H' → Le c c' → EnvR m c' H' noPin me He ρ σ
theorem EnvF.of (E : EnvR m c H noPin me He ρ σ) : EnvF m c H c me He ρ σ := fun c' H' s _ => E.step s
theorem EnvF.wipe (E : EnvF m c₁ H₁ c me He ρ σ) (is : List Nat) : EnvF m c₁ H₁ c me He (wipeE ρ is) (L2.wipe σ is) := fun c' H' s l => (E c' H' s l).wipe is
theorem EnvF.le (E : EnvF m c₁ H₁ c me He ρ σ) (l : Le c c₂) : EnvF m c₁ H₁ c₂ me He ρ σ := fun c' H' s l' => E c' H' s (l.trans l')
theorem EnvF.base (E : EnvF m c₁ H₁ c me He ρ σ) (s : Step c₁ H₁ c₂ H₂) : EnvF m c₂ H₂ c me He ρ σ := fun c' H' s' l => E c' H' (s.trans s') l
theorem EnvF.setAll {is : List Nat} {us : List V} {xs : List R.D} (E : EnvF m c₁ H₁ c me He ρ σ) (r : RDs m c us xs) : EnvF m c₁ H₁ c me He (putAll ρ is xs) (R.setAll σ is us) := fun c' H' s l => (E c' H' s l).setAll (r.le l)
/-- a target's store -/
theorem gTg_all {ρ1 : REnv} {is : List Nat} {d : R.D} {v : V} {Q : St → Hp → Prop} (w : Wd m c H S) (h : put ρ is d = some ρ1) (r : RD m c v d)
    (q : ∀ (us : List V) (xs : List R.D), us.length = is.length → RDs m c us xs → ρ1 = putAll ρ is xs → Q (R.setAll σ is us) H) : gTg m.K is v σ H Q := by
  have many : ¬ is.length = 1 → putT ρ is d = some ρ1 → gTg m.K is v σ H Q := fun n1 h => by
    rw [gTg_many m.K n1]
    cases r with
    | tup h1 h2 =>
      rename_i p vs xs _
      have h : (if xs.length = is.length then some (putAll ρ is xs) else none) = some ρ1 := h
      split at h
      · rename_i hl
        cases h
        have l : vs.length = is.length := by rw [h2.length, hl]
        exact ⟨p, vs, rfl, sqT_mono w.le h1, l, gTgs_of l (q vs xs l h2 rfl)⟩
      · cases h
    | _ => cases h
  match is, h, many with
  | [i], h, _ =>
    cases h
    exact q [v] [d] rfl (.cons r .nil) rfl
  | [], h, many => exact many (by decide) h
  | i :: j :: is, h, many => exact many (by simp) h
/-- the promise of the part behind a clause -/
def innC (T : Tab) (C : Calls) (m : Pm) (cs : Cs) (em : REnv → Store → O → Out O) (D : Addr) : St → Hp → (Hp → Prop) → Prop := fun σ H N => ∃ c₁ H₁ c me He ρ S acc acc' S', H₁ D = none ∧ Step c₁ H₁ c H ∧ EnvF m c₁ H₁ c me He ρ σ ∧ Wd m c H S ∧ RO m c H D acc ∧ c.G D = none ∧ D ∉ c.A ∧
  evC T C cs em ρ S acc = .ok acc' S' ∧ ∀ c' H', Step c₁ H₁ c' H' → Le c c' → Wd m c' H' S' → RO m c' H' D acc' → c'.G D = none → D ∉ c'.A → N H'
def turnF (T : Tab) (C : Calls) (ws tg : List Nat) (cc : E) (cs : Cs) (em : REnv → Store → O → Out O) (ρ : REnv) : R.D → Store → O → Out O := fun x S acc => match put (wipeE ρ ws) tg x with
        | some ρ1 => (evE T C cc ρ1 S).bind fun rc S1 => (match rc with
          | .val (.bl true) => evC T C cs em ρ1 S1 acc
          | .val (.bl false) => .ok acc S1
          | _ => .bad)
        | none => .bad
/-- what a walk gives, in a turn -/
def Yields (m : Pm) (J : It) (xs : List R.D) (ok : Cfg → Hp → Prop) : Prop := ∀ (i : Nat) c2 H2 S, ok c2 H2 → Wd m c2 H2 S →
  (∀ d, xs[i]? = some d → J.go i H2 ∧ ∀ x H', J.yld i H2 x H' → ∃ c3, Step c2 H2 c3 H' ∧ Wd m c3 H' S ∧ RD m c3 x d) ∧ (xs.length ≤ i → J.stop i H2)
theorem bind_okO {α β : Type} {o : Out α} {f : α → Store → Out β} {b : β} {S' : Store} (h : o.bind f = .ok b S') : ∃ a S1, o = .ok a S1 ∧ f a S1 = .ok b S' := by
  cases o with
  | ok a S1 => exact ⟨a, S1, rfl, h⟩
  | exc _ _ _ => cases h
  | bad => cases h
/-- a clause's loop, out of the interpreter's -/
theorem lp_of {ws tg : List Nat} {cc : E} {cs : Cs} {J : It} {xs : List R.D} {acc acc' : O} {S' : Store} {cj : Cfg} {Hj : Hp} (htg : ∀ i ∈ tg, i ∈ ws) (hD : H₁ D = none) (s0 : Step c₁ H₁ cj Hj) (E : EnvF m c₁ H₁ cj me He ρ σ) (w : Wd m cj Hj S) (ro : RO m cj Hj D acc) (g : cj.G D = none) (n : D ∉ cj.A)
    (Y : Yields m J xs fun c2 H2 => Step c₁ H₁ c2 H2 ∧ Le cj c2) (hl : itLoop (turnF T C ws tg cc cs em ρ) xs S acc = .ok acc' S')
    (fin : ∀ c' H', Step c₁ H₁ c' H' → Le cj c' → Wd m c' H' S' → RO m c' H' D acc' → c'.G D = none → D ∉ c'.A → N H') :
    tLp (gTg m.K tg) (tT T C m noPin noW cc) ws (innC T C m cs em D) J σ Hj N := by
  refine ⟨fun i k H => k = xs.length - i ∧ i ≤ xs.length ∧ ∃ c S acc2, Step c₁ H₁ c H ∧ Le cj c ∧ Wd m c H S ∧ RO m c H D acc2 ∧ c.G D = none ∧ D ∉ c.A ∧ itLoop (turnF T C ws tg cc cs em ρ) (xs.drop i) S acc2 = .ok acc' S',
    ⟨_, rfl, Nat.zero_le _, cj, S, acc, s0, Le.refl _, w, ro, g, n, by rw [List.drop_zero]; exact hl⟩, ?_⟩
  rintro i k H ⟨rfl, hi, c, S, acc2, s1, l1, w1, ro1, g1, n1, h1⟩
  have yy := Y i c H S ⟨s1, l1⟩ w1
  by_cases hlt : i < xs.length
  · obtain ⟨go, yl⟩ := yy.1 xs[i] (List.getElem?_eq_getElem hlt)
    refine .inr ⟨go, fun H' => i + 1 ≤ xs.length ∧ ∃ c S acc2, Step c₁ H₁ c H' ∧ Le cj c ∧ Wd m c H' S ∧ RO m c H' D acc2 ∧ c.G D = none ∧ D ∉ c.A ∧ itLoop (turnF T C ws tg cc cs em ρ) (xs.drop (i + 1)) S acc2 = .ok acc' S', fun H' nx => ⟨xs.length - (i + 1), by omega, rfl, nx⟩, fun x H' y => ?_⟩
    obtain ⟨c3, s3, w3, rx⟩ := yl x H' y
    rw [List.drop_eq_getElem_cons hlt, itLoop] at h1
    obtain ⟨acc3, S3, hF, hrest⟩ := bind_okO h1
    unfold turnF at hF
    cases hp : put (wipeE ρ ws) tg xs[i] with
    | none => rw [hp] at hF; cases hF
    | some ρ1 =>
    rw [hp] at hF
    simp only at hF
    obtain ⟨rc, S4, hc, hF⟩ := bind_okO hF
    refine gTg_all w3 hp rx fun us ys hlen rs e => ⟨?_, ?_⟩
    · exact (wipe_setAll htg rfl).trans (wipe_idem σ ws)
    subst e
    have F3 : EnvF m c₁ H₁ c3 me He (putAll (wipeE ρ ws) tg ys) (R.setAll (L2.wipe σ ws) tg us) := EnvF.setAll ((E.wipe ws).le (l1.trans s3.le)) rs
    obtain ⟨u1, hu1⟩ := ro1.some
    obtain ⟨g3, n3⟩ := s3.off hu1 g1 n1
    have ro3 := ro1.mono s3 n1
    refine ⟨c3, _, S, me, He, F3 c3 H' (s1.trans s3) (Le.refl _), w3, ?_⟩
    rw [hc]
    intro c4 H4 v4 s4 w4 x4
    obtain ⟨u3, hu3⟩ := ro3.some
    obtain ⟨g4, n4⟩ := s4.off hu3 g3 n3
    have ro4 := ro3.mono s4 n3
    cases rc with
    | own _ => cases hF
    | tmp _ => cases hF
    | val d =>
    cases d with
    | bl b =>
      refine ⟨b, bl_of x4, ?_⟩
      cases b with
      | false =>
        refine iteF ?_
        cases hF
        exact ⟨hlt, c4, _, _, (s1.trans s3).trans s4, (l1.trans s3.le).trans s4.le, w4, ro4, g4, n4, hrest⟩
      | true =>
        refine iteT ?_
        exact ⟨c₁, H₁, c4, me, He, _, S4, acc2, acc3, S3, hD, (s1.trans s3).trans s4, F3.le s4.le, w4, ro4, g4, n4, hF, fun c' H' s' l' w' ro' g' n' =>
          ⟨hlt, c', S3, acc3, s', ((l1.trans s3.le).trans s4.le).trans l', w', ro', g', n', hrest⟩⟩
    | _ => cases hF
  · refine .inl ⟨yy.2 (by omega), ?_⟩
    rw [List.drop_eq_nil_of_le (by omega), itLoop] at h1
    cases h1
    exact fin c H s1 l1 w1 ro1 g1 n1
theorem wipeE_at (ρ : REnv) (j : Nat) : ∀ is : List Nat, (wipeE ρ is)[j]? = if j ∈ is then ρ[j]?.map (fun _ => Sl.un) else ρ[j]?
  | [] => by simp [wipeE]
  | i :: is => by
    have ih := wipeE_at ρ j is
    show ((wipeE ρ is).set i .un)[j]? = _
    by_cases e : i = j
    · subst e
      rw [List.getElem?_set_self', ih]
      by_cases h : i ∈ is <;> simp [h] <;> cases ρ[i]? <;> rfl
    · rw [List.getElem?_set_ne e, ih]
      have e2 : ¬ j = i := fun z => e z.symm
      simp [e2]
theorem wipeE_idem (ρ : REnv) (is : List Nat) : wipeE (wipeE ρ is) is = wipeE ρ is := by
  refine List.ext_getElem? fun j => ?_
  rw [wipeE_at, wipeE_at]
  by_cases h : j ∈ is <;> simp [h]
  cases ρ[j]? <;> rfl
/-- made a value, another object staying off -/
theorem frz_off {r : Rv} {v : V} {d : R.D} {u : HO} (w : Wd m c H S) (s : Step c₀ H₀ c H) (h : RRv m c H H₂ v r) (e : r.frz = some d) (dom : ∀ p, H₂ p = none → H₀ p = none) (hD : H₂ D = some u) (g : c.G D = none) (n : D ∉ c.A) :
    ∃ c', Step c₀ H₀ c' H ∧ Wd m c' H S ∧ RD m c' v d ∧ Le c c' ∧ c'.G D = none ∧ D ∉ c'.A := by
  have put : ∀ {p : Addr} {ho : HO}, c.G p = none → p ∉ c.A → H₂ p = none → H p = some ho → Step c₀ H₀ (c.put p ho) H ∧ Wd m (c.put p ho) H S ∧ Le c (c.put p ho) ∧ (c.put p ho).G D = none ∧ D ∉ (c.put p ho).A := fun {p ho} h2 h3 h4 hp =>
    ⟨step_put s h2 (dom _ h4), wd_put w hp h2 h3, le_put h2, by
      show upd _ _ _ _ = _
      rw [upd_ne fun z : D = p => by subst z; rw [hD] at h4; cases h4]; exact g, n⟩
  cases h with
  | tmp _ _ _ => cases e
  | val h => cases e; exact ⟨c, s, w, h, Le.refl c, g, n⟩
  | own h1 h2 h3 h4 =>
    cases e
    cases h1 with
    | lst a b => obtain ⟨z1, z2, z3, z4, z5⟩ := put h2 h3 h4 a; exact ⟨_, z1, z2, .lst upd_same (b.le z3), z3, z4, z5⟩
    | dct a b => obtain ⟨z1, z2, z3, z4, z5⟩ := put h2 h3 h4 a; exact ⟨_, z1, z2, .dct upd_same (b.le z3), z3, z4, z5⟩
    | ins a b d => obtain ⟨z1, z2, z3, z4, z5⟩ := put h2 h3 h4 a; exact ⟨_, z1, z2, .ins upd_same b (d.le z3), z3, z4, z5⟩
def emL (T : Tab) (C : Calls) (elt : E) : REnv → Store → O → Out O := fun ρ2 S2 acc => (evE T C elt ρ2 S2).bind fun r S3 => match r.frz, acc with
            | some d, .lst ys => if ys.length < lim then .ok (.lst (ys ++ [d])) S3 else .bad
            | _, _ => .bad
def emD (T : Tab) (C : Calls) (k v : E) : REnv → Store → O → Out O := fun ρ2 S2 acc => (evE T C k ρ2 S2).bind fun rk S3 => match rk with
            | .val dk => (evE T C v ρ2 S3).bind fun rv S4 => (match rv.frz, keyOf dk, acc with
              | some d, some κ, .dct kvs => if kvs.length < lim then .ok (.dct (putD kvs κ dk d)) S4 else .bad
              | _, _, _ => .bad)
            | _ => .bad
/-- an item, made and put at the end -/
theorem emL_of {elt : E} (h : innC T C m .nil (emL T C elt) D σ H N) : tI T C m noPin noW elt σ H fun y H1 => ∃ acc, H1 D = some (.lst acc) ∧ acc.length < sizeLine ∧ N (upd H1 D (.lst (acc ++ [y]))) := by
  obtain ⟨c₁, H₁, c, me, He, ρ, S, acc, acc', S', hD, s, E, w, ro, g, n, he, fin⟩ := h
  unfold evC emL at he
  obtain ⟨r, S3, h1, h2⟩ := bind_okO he
  refine ⟨c, ρ, S, me, He, E c H s (Le.refl c), w, ?_⟩
  rw [h1]
  intro c' H' v s' w' x'
  cases hf : r.frz with
  | none => rw [hf] at h2; cases h2
  | some d =>
  rw [hf] at h2
  obtain ⟨u0, hu0⟩ := ro.some
  obtain ⟨g', n'⟩ := s'.off hu0 g n
  have ro' := ro.mono s' n
  cases acc with
  | dct _ => cases h2
  | ins _ _ => cases h2
  | lst ys =>
  simp only at h2
  split at h2
  · rename_i hl
    cases h2
    cases ro' with
    | lst hH rs =>
    rename_i vs
    refine ⟨vs, hH, by rw [rs.length]; exact lim_lt hl, ?_⟩
    obtain ⟨c6, s6, w6, r6, l6, g6, n6⟩ := frz_off w' (s.trans s') x' hf (fun p hp => s.dom p hp) hu0 g' n'
    obtain ⟨s7, w7⟩ := step_mut (o := .lst (vs ++ [v])) s6 w6 hD g6 n6
    exact fin c6 _ s7 (s'.le.trans l6) w7 (.lst upd_same ((rs.le l6).append (.cons r6 .nil))) g6 n6
  · cases h2
/-- .. an entry -/
theorem emD_of {k v : E} (h : innC T C m .nil (emD T C k v) D σ H N) : tEmD m D (tI T C m noPin noW k) (tI T C m noPin noW v) σ H N := by
  obtain ⟨c₁, H₁, c, me, He, ρ, S, acc, acc', S', hD, s, E, w, ro, g, n, he, fin⟩ := h
  unfold evC emD at he
  obtain ⟨rk, S3, h1, h2⟩ := bind_okO he
  refine ⟨c, ρ, S, me, He, E c H s (Le.refl c), w, ?_⟩
  rw [h1]
  intro c2 H2 y s2 w2 x2
  cases rk with
  | own _ => cases h2
  | tmp _ => cases h2
  | val dk =>
  obtain ⟨rv, S4, h3, h4⟩ := bind_okO h2
  refine ⟨c2, ρ, S3, me, He, E c2 H2 (s.trans s2) s2.le, w2, ?_⟩
  rw [h3]
  intro c3 H3 z s3 w3 x3
  cases hf : rv.frz with
  | none => rw [hf] at h4; cases h4
  | some d =>
  cases hk : keyOf dk with
  | none => rw [hf, hk] at h4; cases h4
  | some κ =>
  rw [hf, hk] at h4
  obtain ⟨u0, hu0⟩ := ro.some
  obtain ⟨g2, n2⟩ := s2.off hu0 g n
  have ro2 := ro.mono s2 n
  obtain ⟨u2, hu2⟩ := ro2.some
  obtain ⟨g3, n3⟩ := s3.off hu2 g2 n2
  have ro3 := ro2.mono s3 n2
  cases acc with
  | lst _ => cases h4
  | ins _ _ => cases h4
  | dct kvs =>
  simp only at h4
  split at h4
  · rename_i hl
    cases h4
    cases ro3 with
    | dct hH rs =>
    rename_i es
    cases x2 with
    | val x2 =>
    obtain ⟨c6, s6, w6, r6, l6, g6, n6⟩ := frz_off w3 ((s.trans s2).trans s3) x3 hf (fun p hp => s.dom p (s2.dom p hp)) hu2 g3 n3
    refine ⟨c6, _, es, kvs, dk, κ, d, w6, hH, rs.le l6, x2.le (s3.le.trans l6), hk, r6, lim_lt hl, fun es' re => ?_⟩
    obtain ⟨s7, w7⟩ := step_mut (o := dHO m D es') s6 w6 hD g6 n6
    exact fin c6 _ s7 ((s2.le.trans s3.le).trans l6) w7 (.dct upd_same re) g6 n6
  · cases h4
/-- the first clause -/
theorem cn_first {pin : Pin} {W : WX} {own tg : List Nat} {it : I} {cc : E} {cs : Cs} {Q : VK} {u : Addr → HO} {o0 : O} (htg : ∀ i ∈ tg, i ∈ own) (ho : ∀ (c : Cfg) (H : Hp) (D : Addr), RO m c (upd H D (u D)) D o0)
    {c : Cfg} {ρ : REnv} {S : Store} (E : EnvR m c H pin me He ρ σ) (w : Wd m c H S) (hpin : pin = noPin)
    (h : Post m W c H σ ((evI T C it ρ S).bind fun xs S1 => if xs.length ≤ 100000 then (itLoop (turnF T C own tg cc cs em (wipeE ρ own)) xs S1 o0).nox.bind (fun acc S2 => .ok (.own acc) S2) else .bad) Q) :
    tCn u (wI T C m pin W it) (gTg m.K tg) (tT T C m noPin noW cc) own (innC T C m cs em) σ H Q := by
  subst hpin
  refine ⟨c, ρ, S, me, He, E, w, ?_⟩
  cases q : evI T C it ρ S with
  | bad => rw [q] at h; exact h
  | exc k ds S1 => rw [q] at h; exact h
  | ok xs S1 =>
    rw [q, Out.bind_ok] at h
    intro c1 H1 J s1 w1 wk D hD
    split at h
    · cases hl : itLoop (turnF T C own tg cc cs em (wipeE ρ own)) xs S1 o0 with
      | bad => rw [hl] at h; exact h.elim
      | exc _ _ _ => rw [hl] at h; exact h.elim
      | ok acc SF =>
      rw [hl] at h
      obtain ⟨s2, w2⟩ := step_new (o := u D) w1 hD
      obtain ⟨nA, nG⟩ := w1.new hD
      exact lp_of htg hD s2 ((EnvF.of (E.step s1)).wipe own) w2 (ho c1 H1 D) nG nA (fun i c2 H2 S st w => wk i c2 H2 S st.1 w) hl fun c' H' s' l' w' ro' g' n' =>
        h c' H' _ (s1.trans s') w' (.own ro' g' n' (s1.dom _ hD))
    · exact h.elim
theorem cnL_of {pin : Pin} {W : WX} {own tg : List Nat} {it : I} {cc elt : E} {cs : Cs} {Q : VK} (htg : ∀ i ∈ tg, i ∈ own) (hpin : pin = noPin) (h : tI T C m pin W (.compN own tg it cc cs elt) σ H Q) :
    tCn (fun _ => .lst []) (wI T C m pin W it) (gTg m.K tg) (tT T C m noPin noW cc) own (innC T C m cs (emL T C elt)) σ H Q := by
  obtain ⟨c, ρ, S, me, He, E, w, h⟩ := h
  refine cn_first (o0 := .lst []) htg (fun c H D => .lst upd_same .nil) E w hpin ?_
  unfold evE at h
  unfold turnF
  rw [wipeE_idem]
  exact h
theorem cnD_of {pin : Pin} {W : WX} {own tg : List Nat} {it : I} {cc k v : E} {cs : Cs} {Q : VK} (htg : ∀ i ∈ tg, i ∈ own) (hpin : pin = noPin) (h : tI T C m pin W (.compD own tg it cc cs k v) σ H Q) :
    tCn (fun D => dHO m D ([], nullO)) (wI T C m pin W it) (gTg m.K tg) (tT T C m noPin noW cc) own (innC T C m cs (emD T C k v)) σ H Q := by
  obtain ⟨c, ρ, S, me, He, E, w, h⟩ := h
  refine cn_first (o0 := .dct []) htg (fun c H D => .dct upd_same .nil) E w hpin ?_
  unfold evE at h
  unfold turnF
  rw [wipeE_idem]
  exact h
end
end R

set_option maxHeartbeats 4000000
/-! Walks that stay. -/
namespace R
open PySem L2
/-- a walk that stays whatever is stored to -/
def WalksG (m : Pm) (c : Cfg) (J : It) (xs : List R.D) : Prop := ∀ (i : Nat) c2 H2 S, Le c c2 → Wd m c2 H2 S →
  (∀ d, xs[i]? = some d → J.go i H2 ∧ ∀ x H', J.yld i H2 x H' → ∃ c3, Step c2 H2 c3 H' ∧ Wd m c3 H' S ∧ RD m c3 x d) ∧ (xs.length ≤ i → J.stop i H2)
def wIG (T : Tab) (C : Calls) (m : Pm) (pin : Pin) (W : WX) (it : I) : TI := fun σ H R => ∃ c ρ S me He, EnvR m c H pin me He ρ σ ∧ Wd m c H S ∧ match evI T C it ρ S with
  | .ok xs S1 => ∀ c1 H1 J, Step c H c1 H1 → Wd m c1 H1 S1 → WalksG m c1 J xs → R J H1
  | .exc k ds S1 => ∀ c' H' cls d, Step c H c' H' → Wd m c' H' S1 → ExR m c' cls d k ds → W cls d σ H'
  | .bad => False
/-! ### walks that stay -/
section
variable {T : Tab} {C : Calls} {m : Pm} {pin : Pin} {W : WX} {σ : St} {H : Hp} {c : Cfg} {p : Addr} {Rr : It → Hp → Prop} {S₁ : Store} {H₀ : Hp}
theorem walksG_l {vs : List V} {ds : List R.D} (h : c.G p = some (.lst vs)) (r : RDs m c vs ds) : WalksG m c (Itl m.K p) ds := by
  intro i c2 H2 S l w
  have e := w.le _ _ (l.G _ _ h)
  have r2 := r.le l
  refine ⟨fun d hd => ?_, fun hi => ⟨vs, SqL.of e, by rw [r.length]; exact hi⟩⟩
  obtain ⟨v, hv, rv⟩ := r2.get hd
  refine ⟨⟨vs, v, SqL.of e, hv⟩, fun x H' y => ?_⟩
  obtain ⟨rfl, y⟩ := y
  have := y vs (SqL.of e)
  rw [hv] at this
  cases this
  exact ⟨c2, Step.refl _ _, w, rv⟩
theorem walksG_t {vs : List V} {ds : List R.D} (h : SqT m.K c.G p vs) (r : RDs m c vs ds) : WalksG m c (Itt m.K p) ds := by
  intro i c2 H2 S l w
  have e : SqT m.K H2 p vs := sqT_mono w.le (sqT_mono l.G h)
  have r2 := r.le l
  refine ⟨fun d hd => ?_, fun hi => ⟨vs, e, by rw [r.length]; exact hi⟩⟩
  obtain ⟨v, hv, rv⟩ := r2.get hd
  refine ⟨⟨vs, v, e, hv⟩, fun x H' y => ?_⟩
  obtain ⟨rfl, y⟩ := y
  have := y vs e
  rw [hv] at this
  cases this
  exact ⟨c2, Step.refl _ _, w, rv⟩
theorem walksG_r {lo : Int} {n : Nat} : WalksG m c (Itr lo n) ((List.range n).map fun (i : Nat) => R.D.int (lo + i)) := fun i c2 H2 S l w => walks_r (m := m) (c := c2) (H := H2) i c2 H2 S (Step.refl _ _) w
theorem wIG_seqF {it : E} (h : wIG T C m pin W (.seqF it) σ H Rr) : iSeq m.K (tI T C m pin W it) σ H Rr := by
  obtain ⟨c, ρ, S, me, He, E, w, h⟩ := h
  refine ⟨c, ρ, S, me, He, E, w, ?_⟩
  unfold evI at h
  cases q : evE T C it ρ S with
  | bad => rw [q] at h; exact h
  | exc k ds S1 => rw [q] at h; exact h
  | ok r S1 =>
    rw [q, Out.bind_ok] at h
    cases hx : r.frz.bind D.seq with
    | none => simp only [hx] at h
    | some xs =>
    simp only [hx] at h
    intro c' H' v s w' x
    cases hf : r.frz with
    | none => rw [hf] at hx; cases hx
    | some d =>
    rw [hf] at hx
    obtain ⟨c2, s2, w2, x2, l2⟩ := x.frz w' s hf
    have hx : D.seq d = some xs := hx
    cases d with
    | lst ys =>
      cases hx
      cases x2 with
      | lst h1 h2 => exact ⟨_, rfl, .inl ⟨⟨_, SqL.of (w2.le _ _ h1)⟩, h c2 H' _ s2 w2 (walksG_l h1 h2)⟩⟩
    | tup ys =>
      cases hx
      cases x2 with
      | tup h1 h2 => exact ⟨_, rfl, .inr ⟨⟨_, sqT_mono w2.le h1⟩, h c2 H' _ s2 w2 (walksG_t h1 h2)⟩⟩
    | _ => cases hx
theorem wIG_rng1 {a : E} (h : wIG T C m pin W (.rng1 a) σ H Rr) : iRng1 (tL T C m pin W (.cons a .nil)) σ H Rr := by
  obtain ⟨c, ρ, S, me, He, E, w, h⟩ := h
  refine ⟨c, ρ, S, me, He, E, w, ?_⟩
  unfold evI at h
  unfold evL
  cases q : evE T C a ρ S with
  | bad => rw [q] at h; exact h
  | exc k ds S1 => rw [q] at h; exact h
  | ok r S1 =>
    rw [q, Out.bind_ok] at h
    rw [Out.bind_ok]
    cases r with
    | own _ => exact h.elim
    | tmp _ => exact h.elim
    | val d =>
    cases d with
    | int n =>
      simp only at h
      by_cases hn : (decide (-100000 ≤ n) && decide (n ≤ 100000)) = true
      · rw [if_pos hn] at h
        unfold evL
        simp only [Rv.frz, Out.bind_ok]
        simp only [Bool.and_eq_true, decide_eq_true_eq] at hn
        intro c1 H1 vs s1 w1 x1
        cases x1 with
        | cons x1 x2 =>
        cases x1; cases x2
        exact ⟨n, rfl, by omega, by omega, h c1 H1 _ s1 w1 walksG_r⟩
      · rw [if_neg hn] at h; exact h.elim
    | _ => exact h.elim
theorem wIG_rng2 {a b : E} (h : wIG T C m pin W (.rng2 a b) σ H Rr) : iRng2 (tL T C m pin W (.cons a (.cons b .nil))) σ H Rr := by
  obtain ⟨c, ρ, S, me, He, E, w, h⟩ := h
  refine ⟨c, ρ, S, me, He, E, w, ?_⟩
  unfold evI at h
  unfold evL
  cases q : evE T C a ρ S with
  | bad => rw [q] at h; exact h
  | exc k ds S1 => rw [q] at h; exact h
  | ok r S1 =>
    rw [q, Out.bind_ok] at h
    rw [Out.bind_ok]
    cases r with
    | own _ => exact h.elim
    | tmp _ => exact h.elim
    | val d =>
    cases d with
    | int i =>
      unfold evL
      simp only [Rv.frz] at h ⊢
      cases q2 : evE T C b ρ S1 with
      | bad => rw [q2] at h; exact h.elim
      | exc k ds S2 => rw [q2] at h; exact h
      | ok r2 S2 =>
      rw [q2, Out.bind_ok] at h
      rw [Out.bind_ok]
      cases r2 with
      | own _ => exact h.elim
      | tmp _ => exact h.elim
      | val d2 =>
      cases d2 with
      | int n =>
        simp only at h
        by_cases hn : (decide (-100000 ≤ i) && decide (i ≤ 100000) && decide (-100000 ≤ n) && decide (n ≤ 100000)) = true
        · rw [if_pos hn] at h
          unfold evL
          simp only [Rv.frz, Out.bind_ok]
          simp only [Bool.and_eq_true, decide_eq_true_eq] at hn
          intro c1 H1 vs s1 w1 x1
          cases x1 with
          | cons x1 x2 =>
          cases x2 with
          | cons x2 x3 =>
          cases x1; cases x2; cases x3
          exact ⟨i, n, rfl, by omega, h c1 H1 _ s1 w1 walksG_r⟩
        · rw [if_neg hn] at h; exact h.elim
      | _ => exact h.elim
    | _ => exact h.elim
end
/-! ### ranges with a step, keys, pairs -/
section
variable {T : Tab} {C : Calls} {m : Pm} {pin : Pin} {W : WX} {σ : St} {H : Hp} {c : Cfg} {p : Addr} {Rr : It → Hp → Prop}
theorem WalksG.walks {J : It} {xs : List R.D} (h : WalksG m c J xs) : Walks m c H J xs := fun i c2 H2 S s w => h i c2 H2 S s.le w
theorem wIG_of {it : I} (h : wI T C m pin W it σ H Rr) : wIG T C m pin W it σ H Rr := by
  obtain ⟨c, ρ, S, me, He, E, w, h⟩ := h
  refine ⟨c, ρ, S, me, He, E, w, ?_⟩
  cases q : evI T C it ρ S with
  | ok xs S1 =>
    rw [q] at h
    exact fun c1 H1 J s1 w1 wk => h c1 H1 J s1 w1 wk.walks
  | exc k ds S1 => rw [q] at h; exact h
  | bad => rw [q] at h; exact h
theorem range_size {i j c : Int} (hi : -100000 ≤ i) (hi2 : i ≤ 100000) (hj : -100000 ≤ j) (hj2 : j ≤ 100000) (hc : 1 ≤ c) (hc2 : c ≤ 1000) : RgC i j c ((j - i + c - 1) / c).toNat := by
  refine ⟨by omega, by omega, ?_, ?_⟩
  · have h1 : (j - i - 1) / c ≤ 200000 := by
      by_cases h : 0 ≤ j - i - 1
      · exact Int.le_trans (Int.ediv_le_self _ h) (by omega)
      · have := Int.ediv_neg_of_neg_of_pos (a := j - i - 1) (b := c) (by omega) (by omega)
        omega
    have h0 : i < j → 0 ≤ (j - i - 1) / c := fun h => Int.ediv_nonneg (by omega) (by omega)
    have hs : 0 ≤ Builtin.Range.rangeSize i j c ∧ Builtin.Range.rangeSize i j c ≤ 200001 := by
      unfold Builtin.Range.rangeSize
      rw [if_pos (show c > 0 by omega)]
      split
      · rename_i h
        have := h0 h
        omega
      · omega
    unfold Builtin.Range.small
    simp only [Builtin.Range.rangeFitsLong, Bool.and_eq_true, Bool.or_eq_true, decide_eq_true_eq, beq_iff_eq, show c > 0 by omega, if_true]
    omega
  · unfold Builtin.Range.rangeSize
    rw [if_pos (show c > 0 by omega)]
    have e : (j - i + c - 1) / c = (j - i - 1) / c + 1 := by
      rw [show j - i + c - 1 = (j - i - 1) + c by omega, Int.add_ediv_of_dvd_right ⟨1, by omega⟩, Int.ediv_self (by omega)]
    by_cases h : i < j
    · rw [if_pos h, e]
      have := Int.ediv_nonneg (a := j - i - 1) (b := c) (by omega) (by omega)
      omega
    · rw [if_neg h, e]
      have := Int.ediv_neg_of_neg_of_pos (a := j - i - 1) (b := c) (by omega) (by omega)
      omega
theorem walksG_c {lo st : Int} {n : Nat} : WalksG m c (Itc lo st n) ((List.range n).map fun (i : Nat) => R.D.int (lo + i * st)) := by
  intro i c2 H2 S s w
  refine ⟨fun d hd => ?_, fun hi => by
    show n ≤ i
    simpa using hi⟩
  rw [List.getElem?_map] at hd
  have hi : i < n := by
    by_cases h : i < n
    · exact h
    · rw [List.getElem?_eq_none (by simpa using h)] at hd; cases hd
  rw [List.getElem?_range hi] at hd
  cases hd
  refine ⟨hi, fun x H' y => ?_⟩
  obtain ⟨rfl, rfl⟩ := y
  exact ⟨c2, Step.refl _ _, w, .int _⟩
theorem wIG_rng3 {a b e : E} (h : wIG T C m pin W (.rng3 a b e) σ H Rr) : iRng3 (tL T C m pin W (.cons a (.cons b (.cons e .nil)))) σ H Rr := by
  obtain ⟨c, ρ, S, me, He, E, w, h⟩ := h
  refine ⟨c, ρ, S, me, He, E, w, ?_⟩
  unfold evI at h
  unfold evL
  cases q : evE T C a ρ S with
  | bad => rw [q] at h; exact h
  | exc k ds S1 => rw [q] at h; exact h
  | ok r S1 =>
    rw [q, Out.bind_ok] at h
    rw [Out.bind_ok]
    cases r with
    | own _ => exact h.elim
    | tmp _ => exact h.elim
    | val d =>
    cases d with
    | int i =>
      unfold evL
      simp only [Rv.frz] at h ⊢
      cases q2 : evE T C b ρ S1 with
      | bad => rw [q2] at h; exact h.elim
      | exc k ds S2 => rw [q2] at h; exact h
      | ok r2 S2 =>
      rw [q2, Out.bind_ok] at h
      rw [Out.bind_ok]
      cases r2 with
      | own _ => exact h.elim
      | tmp _ => exact h.elim
      | val d2 =>
      cases d2 with
      | int n =>
        unfold evL
        simp only [Rv.frz] at h ⊢
        cases q3 : evE T C e ρ S2 with
        | bad => rw [q3] at h; exact h.elim
        | exc k ds S3 => rw [q3] at h; exact h
        | ok r3 S3 =>
        rw [q3, Out.bind_ok] at h
        rw [Out.bind_ok]
        cases r3 with
        | own _ => exact h.elim
        | tmp _ => exact h.elim
        | val d3 =>
        cases d3 with
        | int st =>
          simp only at h
          by_cases hn : (decide (-100000 ≤ i) && decide (i ≤ 100000) && decide (-100000 ≤ n) && decide (n ≤ 100000) && decide (1 ≤ st) && decide (st ≤ 1000)) = true
          · rw [if_pos hn] at h
            unfold evL
            simp only [Rv.frz, Out.bind_ok]
            simp only [Bool.and_eq_true, decide_eq_true_eq] at hn
            intro c1 H1 vs s1 w1 x1
            cases x1 with
            | cons x1 x2 =>
            cases x2 with
            | cons x2 x3 =>
            cases x3 with
            | cons x3 x4 =>
            cases x1; cases x2; cases x3; cases x4
            exact ⟨i, n, st, _, rfl, range_size hn.1.1.1.1.1 hn.1.1.1.1.2 hn.1.1.1.2 hn.1.1.2 hn.1.2 hn.2, h c1 H1 _ s1 w1 walksG_c⟩
          · rw [if_neg hn] at h; exact h.elim
        | _ => exact h.elim
      | _ => exact h.elim
    | _ => exact h.elim
/-! the keys of a dict -/
def ItD (m : Pm) (d : Addr) (es : DE) : It :=
  ⟨fun i H => H d = some (dHO m d es) ∧ i < es.1.length, fun i H x H' => H' = H ∧ ∃ e, es.1[i]? = some e ∧ x = .ref e.2.1, fun i H => H d = some (dHO m d es) ∧ es.1.length ≤ i⟩
theorem paired_at {α β : Type} {F : α → β → Prop} : ∀ {l : List α} {l' : List β} {i : Nat} {a : α}, Paired F l l' → l[i]? = some a → ∃ b, l'[i]? = some b ∧ F a b
  | _, _, i, a, .nil, h => by simp at h
  | _, _, 0, a, .cons h1 _, h => by simp at h; subst h; exact ⟨_, rfl, h1⟩
  | _, _, i + 1, a, .cons _ h2, h => by
    obtain ⟨b, e, f⟩ := paired_at (i := i) h2 (by simpa using h)
    exact ⟨b, by simpa using e, f⟩
theorem turn_keysD {tg : Expr} {d : Addr} {es : DE} {eds : Array DictEntry} {ep : Nat} (it : Addr) (hod : es.2.data = .dict eds ep) : Turn m.P m.w m.K tg (ItD m d es) [it] it (fun i h => h.IsKeyIter it d i es.1.length ep) where
  mem := by simp
  obj := fun i h st b hb => by
    have e : b = it := by simpa using hb
    subst e
    obtain ⟨oi, e, c, dd⟩ := st
    exact ⟨oi, e, fun v z => by rw [dd] at z; cases z⟩
  keep := fun i h h' st k => st.at fun oi e => k it (by simp) oi e
  item := by
    intro X hP hw hK hc i pins s σ H E I hf st hg
    obtain ⟨hd, hi⟩ := hg
    obtain ⟨f0, f1, f2, f3, f4, f5⟩ := hf it (by simp)
    obtain ⟨⟨hz, hs, xs, hp, eds', ep', h1, h2, h3, h4, h5⟩, _⟩ := I.hok d _ hd
    obtain ⟨rfl, rfl⟩ := dict_ep hod h3
    obtain ⟨en, hen⟩ : ∃ en, es.1[i]? = some en := ⟨es.1[i], List.getElem?_eq_getElem hi⟩
    obtain ⟨x, hx, _, ex, _⟩ := paired_at hp hen
    have hsz : eds'.size = es.1.length := by
      have := congrArg List.length h4
      rw [List.length_map, ← Paired.length hp] at this
      simpa using this
    have hat : eds'[i]? = some (entryOfKey (nestedKind m.P m.w) x) := by
      have : eds'.toList[i]? = (xs.map (entryOfKey (nestedKind m.P m.w)))[i]? := by rw [h4]
      rw [List.getElem?_map, hx] at this
      simpa using this
    rw [← hP, ← hw]
    refine next_key_item st h1 h3 hsz hat fun h' st' sb => ?_
    have I1 : Inv X pins σ H { s with heap := h' } := I.turned (t' := s.toks) (fun b ob hb e => (sb.2 b hb).trans e) f0 f1 f3 f4 f5
    obtain ⟨oi, e, c, dd⟩ := id st'
    exact ⟨_, rfl, go_of (s := { s with heap := h' }) e c dd (by decide) ⟨.ref en.2.1, H, I1, by rw [ex]; rfl, ⟨rfl, en, hen, rfl⟩, st', fun b hb => (hf b hb).1⟩⟩
  done := by
    intro X hP hw hK hc i pins s σ H E I hf st hg
    obtain ⟨hd, hi⟩ := hg
    obtain ⟨f0, f1, f2, f3, f4, f5⟩ := hf it (by simp)
    obtain ⟨⟨hz, hs, xs, hp, eds', ep', h1, h2, h3, h4, h5⟩, _⟩ := I.hok d _ hd
    obtain ⟨rfl, rfl⟩ := dict_ep hod h3
    have hsz : eds'.size = es.1.length := by
      have := congrArg List.length h4
      rw [List.length_map, ← Paired.length hp] at this
      simpa using this
    rw [← hP, ← hw]
    exact next_key_end (I.ok.hd hc) st h1 h3 hsz hi fun h' eb => ⟨rfl, I.turned (t' := s.toks) (fun b ob hb e => eb b ob hb e) f0 f1 f3 f4 f5⟩
  self := fun A i s Q E st h => wpAny_pyIter_keyiter st h
def iKeysD (m : Pm) (td : TE) : TI := fun σ H R => td σ H fun x H1 => ∃ d es, x = .ref d ∧ H1 d = some (dHO m d es) ∧ R (ItD m d es) H1
theorem pi_keysD {X : Cx} {tb : Tb} {tg e : Expr} {td : TE} (he : PE X e td) : PI X tg e (iKeysD (mX X tb) td) := by
  refine ⟨fun pins s σ H R I h => ?_⟩
  refine thn (he.run pins s σ H _ I h) fun u s1 ⟨x, H1, I1, rx, d, es, ex, hd, q⟩ => ?_
  subst ex
  obtain rfl : u = Value.ref d := rx
  obtain ⟨⟨hz, hs, xs, hp, eds, ep, h1, h2, h3, h4, h5⟩, _⟩ := I1.hok d _ hd
  have hsz : eds.size = es.1.length := by
    have := congrArg List.length h4
    rw [List.length_map, ← Paired.length hp] at this
    simpa using this
  refine iter_keys hs h1 h2 h3 (pi_one (tk := s1.toks) I1 _ (turn_keysD (m := mX X tb) _ h3) ⟨_, Heap.get?_push_size _ rfl, rfl, ?_⟩ q)
  rw [hsz] <;> rfl
theorem ks_at : ∀ {es : List DEnt} {kvs : List (R.D × R.D)} {i : Nat} {e : R.D × R.D}, RKs m c es kvs → kvs[i]? = some e → ∃ en, es[i]? = some en ∧ RD m c (.ref en.2.1) e.1
  | _, _, i, e, .nil, h => by simp at h
  | _, _, 0, e, .cons _ h1 _ _, h => by simp at h; subst h; exact ⟨_, rfl, h1⟩
  | _, _, i + 1, e, .cons _ _ _ h2, h => by
    obtain ⟨b, e, f⟩ := ks_at (i := i) h2 (by simpa using h)
    exact ⟨b, by simpa using e, f⟩
theorem walksG_d {es : DE} {kvs : List (R.D × R.D)} (h : c.G p = some (dHO m p es)) (r : RKs m c es.1 kvs) : WalksG m c (ItD m p es) (kvs.map (·.1)) := by
  intro i c2 H2 S l w
  have e := w.le _ _ (l.G _ _ h)
  have r2 := r.le l
  refine ⟨fun d hd => ?_, fun hi => ⟨e, by rw [r.length]; simpa using hi⟩⟩
  rw [List.getElem?_map] at hd
  cases hk : kvs[i]? with
  | none => rw [hk] at hd; cases hd
  | some kv =>
  rw [hk] at hd
  cases hd
  obtain ⟨en, h1, h2⟩ := ks_at r2 hk
  refine ⟨⟨e, (List.getElem?_eq_some_iff.mp h1).1⟩, fun x H' y => ?_⟩
  obtain ⟨rfl, en', h3, rfl⟩ := y
  rw [h1] at h3
  cases h3
  exact ⟨c2, Step.refl _ _, w, h2⟩
theorem wIG_keys {a : E} (h : wIG T C m pin W (.keys a) σ H Rr) : iKeysD m (tI T C m pin W a) σ H Rr := by
  obtain ⟨c, ρ, S, me, He, E, w, h⟩ := h
  refine ⟨c, ρ, S, me, He, E, w, ?_⟩
  unfold evI at h
  cases q : evE T C a ρ S with
  | bad => rw [q] at h; exact h
  | exc k ds S1 => rw [q] at h; exact h
  | ok r S1 =>
    rw [q, Out.bind_ok] at h
    intro c' H' v s w' x
    cases hf : r.frz with
    | none => rw [hf] at h; exact h.elim
    | some d =>
    rw [hf] at h
    obtain ⟨c2, s2, w2, x2, l2⟩ := x.frz w' s hf
    cases d with
    | dct kvs =>
      cases x2 with
      | dct h1 h2 => exact ⟨_, _, rfl, w2.le _ _ h1, h c2 H' _ s2 w2 (walksG_d h1 h2)⟩
    | _ => exact h.elim
/-! pairs -/
theorem enum_at : ∀ {xs : List R.D} {k i : Nat}, (enumD k xs)[i]? = xs[i]?.map fun x => R.D.tup [.int ((k + i : Nat) : Int), x]
  | [], k, i => by simp [enumD]
  | x :: xs, k, 0 => by simp [enumD]
  | x :: xs, k, i + 1 => by
    show (enumD (k + 1) xs)[i]? = xs[i]?.map _
    rw [enum_at, show k + 1 + i = k + (i + 1) by omega]
theorem enum_len : ∀ {xs : List R.D} {k : Nat}, (enumD k xs).length = xs.length
  | [], _ => rfl
  | x :: xs, k => by
    show (enumD (k + 1) xs).length + 1 = _
    rw [enum_len]
    rfl
theorem walksG_e {vs : List V} {ds : List R.D} (h : c.G p = some (.lst vs)) (r : RDs m c vs ds) : WalksG m c (Ite m.K p) (enumD 0 ds) := by
  intro i c2 H2 S l w
  have e := w.le _ _ (l.G _ _ h)
  have r2 := r.le l
  refine ⟨fun d hd => ?_, fun hi => ⟨vs, SqL.of e, by rw [r.length, ← enum_len (k := 0)]; exact hi⟩⟩
  rw [enum_at] at hd
  cases hk : ds[i]? with
  | none => rw [hk] at hd; cases hd
  | some dd =>
  rw [hk] at hd
  cases hd
  obtain ⟨v, hv, rv⟩ := r2.get hk
  refine ⟨⟨vs, v, SqL.of e, hv⟩, fun x H' y => ?_⟩
  obtain ⟨t, z, rfl, hn, rfl, y⟩ := y
  have := y vs (SqL.of e)
  rw [hv] at this
  cases this
  obtain ⟨s3, w3⟩ := step_newG (o := .tup [.int (i : Nat), v]) w hn
  obtain ⟨nA, nG⟩ := w.new hn
  exact ⟨_, s3, w3, .tup (.inl (.inl upd_same)) (.cons (by rw [Nat.zero_add]; exact .int _) (.cons (rv.le (le_put nG)) .nil))⟩
theorem wIG_enum {a : E} (h : wIG T C m pin W (.enum a) σ H Rr) : iEnum m.K (tL T C m pin W (.cons a .nil)) σ H Rr := by
  obtain ⟨c, ρ, S, me, He, E, w, h⟩ := h
  refine ⟨c, ρ, S, me, He, E, w, ?_⟩
  unfold evI at h
  unfold evL
  cases q : evE T C a ρ S with
  | bad => rw [q] at h; exact h
  | exc k ds S1 => rw [q] at h; exact h
  | ok r S1 =>
    rw [q, Out.bind_ok] at h
    rw [Out.bind_ok]
    cases hf : r.frz with
    | none => simp only [hf] at h
    | some d =>
    simp only [hf] at h ⊢
    cases d with
    | lst xs =>
      by_cases hl : xs.length ≤ 100000
      · simp only [if_pos hl] at h
        unfold evL
        simp only [Out.bind_ok]
        intro c1 H1 vs s1 w1 x1
        cases x1 with
        | cons x1 x2 =>
        cases x2
        cases x1 with
        | lst h1 h2 => exact ⟨_, _, rfl, SqL.of (w1.le _ _ h1), h c1 H1 _ s1 w1 (walksG_e h1 h2)⟩
      · simp only [if_neg hl] at h
    | _ => exact h.elim
theorem zip_at {xs ys : List R.D} {i : Nat} {d : R.D} (h : (List.zipWith (fun x y => R.D.tup [x, y]) xs ys)[i]? = some d) : ∃ x y, xs[i]? = some x ∧ ys[i]? = some y ∧ d = .tup [x, y] := by
  rw [List.getElem?_zipWith] at h
  split at h
  · rename_i x y e1 e2
    cases h
    exact ⟨x, y, e1, e2, rfl⟩
  · cases h
theorem walksG_z {q : Addr} {vs us : List V} {ds es : List R.D} (h : c.G p = some (.lst vs)) (r : RDs m c vs ds) (h' : c.G q = some (.lst us)) (r' : RDs m c us es) : WalksG m c (Itz m.K p q) (List.zipWith (fun x y => R.D.tup [x, y]) ds es) := by
  intro i c2 H2 S l w
  have e := w.le _ _ (l.G _ _ h)
  have e' := w.le _ _ (l.G _ _ h')
  have r2 := r.le l
  have r2' := r'.le l
  refine ⟨fun d hd => ?_, fun hi => ⟨vs, us, SqL.of e, SqL.of e', by rw [r.length, r'.length]; rw [List.length_zipWith] at hi; omega⟩⟩
  obtain ⟨x, y, hx, hy, rfl⟩ := zip_at hd
  obtain ⟨v, hv, rv⟩ := r2.get hx
  obtain ⟨v', hv', rv'⟩ := r2'.get hy
  refine ⟨⟨vs, us, v, v', SqL.of e, SqL.of e', hv, hv'⟩, fun x H' y => ?_⟩
  obtain ⟨t, z, z', rfl, hn, rfl, y1, y2⟩ := y
  have a1 := y1 vs (SqL.of e)
  have a2 := y2 us (SqL.of e')
  rw [hv] at a1
  rw [hv'] at a2
  cases a1; cases a2
  obtain ⟨s3, w3⟩ := step_newG (o := .tup [v, v']) w hn
  obtain ⟨nA, nG⟩ := w.new hn
  exact ⟨_, s3, w3, .tup (.inl (.inl upd_same)) (.cons (rv.le (le_put nG)) (.cons (rv'.le (le_put nG)) .nil))⟩
theorem walksG_zT {q : Addr} {vs us : List V} {ds es : List R.D} (h : SqT m.K c.G p vs) (r : RDs m c vs ds) (h' : SqT m.K c.G q us) (r' : RDs m c us es) : WalksG m c (RZ.ItzT m.K p q) (List.zipWith (fun x y => R.D.tup [x, y]) ds es) := by
  intro i c2 H2 S l w
  have e : SqT m.K H2 p vs := sqT_mono w.le (sqT_mono l.G h)
  have e' : SqT m.K H2 q us := sqT_mono w.le (sqT_mono l.G h')
  have r2 := r.le l
  have r2' := r'.le l
  refine ⟨fun d hd => ?_, fun hi => ⟨vs, us, e, e', by rw [r.length, r'.length]; rw [List.length_zipWith] at hi; omega⟩⟩
  obtain ⟨x, y, hx, hy, rfl⟩ := zip_at hd
  obtain ⟨v, hv, rv⟩ := r2.get hx
  obtain ⟨v', hv', rv'⟩ := r2'.get hy
  refine ⟨⟨vs, us, v, v', e, e', hv, hv'⟩, fun x H' y => ?_⟩
  obtain ⟨t, z, z', rfl, hn, rfl, y1, y2⟩ := y
  have a1 := y1 vs e
  have a2 := y2 us e'
  rw [hv] at a1
  rw [hv'] at a2
  cases a1; cases a2
  obtain ⟨s3, w3⟩ := step_newG (o := .tup [v, v']) w hn
  obtain ⟨nA, nG⟩ := w.new hn
  exact ⟨_, s3, w3, .tup (.inl (.inl upd_same)) (.cons (rv.le (le_put nG)) (.cons (rv'.le (le_put nG)) .nil))⟩
theorem wIG_zip {a b : E} (h : wIG T C m pin W (.zip2 a b) σ H Rr) : RZ.iZipA m.K (tL T C m pin W (.cons a (.cons b .nil))) σ H Rr := by
  obtain ⟨c, ρ, S, me, He, E, w, h⟩ := h
  refine ⟨c, ρ, S, me, He, E, w, ?_⟩
  unfold evI at h
  unfold evL
  cases q : evE T C a ρ S with
  | bad => rw [q] at h; exact h
  | exc k ds S1 => rw [q] at h; exact h
  | ok r S1 =>
    rw [q, Out.bind_ok] at h
    rw [Out.bind_ok]
    cases hf : r.frz with
    | none => simp only [hf] at h
    | some d =>
    simp only [hf] at h ⊢
    unfold evL
    cases q2 : evE T C b ρ S1 with
    | bad => rw [q2] at h; exact h.elim
    | exc k ds S2 => rw [q2] at h; exact h
    | ok r2 S2 =>
    rw [q2, Out.bind_ok] at h
    rw [Out.bind_ok]
    cases hf2 : r2.frz with
    | none => rw [hf2] at h; cases d <;> exact h.elim
    | some d2 =>
    simp only [hf2] at h ⊢
    unfold evL
    simp only [Out.bind_ok]
    intro c1 H1 vs s1 w1 x1
    cases x1 with
    | cons x1 x2 =>
    cases x2 with
    | cons x2 x3 =>
    cases x3
    cases d with
    | lst xs =>
      cases d2 with
      | lst ys =>
        cases x1 with
        | lst h1 h2 =>
        cases x2 with
        | lst h3 h4 => exact ⟨_, _, _, _, rfl, .inl ⟨SqL.of (w1.le _ _ h1), SqL.of (w1.le _ _ h3), h c1 H1 _ s1 w1 (walksG_z h1 h2 h3 h4)⟩⟩
      | _ => exact h.elim
    | tup xs =>
      cases d2 with
      | tup ys =>
        cases x1 with
        | tup h1 h2 =>
        cases x2 with
        | tup h3 h4 => exact ⟨_, _, _, _, rfl, .inr ⟨sqT_mono w1.le h1, sqT_mono w1.le h3, h c1 H1 _ s1 w1 (walksG_zT h1 h2 h3 h4)⟩⟩
      | _ => exact h.elim
    | _ => exact h.elim
end
/-- a further clause -/
theorem cn_next {T : Tab} {C : Calls} {m : Pm} {ws tg : List Nat} {it : I} {cc : E} {cs : Cs} {em : REnv → Store → O → Out O} {D : Addr} {σ : St} {H : Hp} {N : Hp → Prop} (htg : ∀ i ∈ tg, i ∈ ws)
    (h : innC T C m (.cons ws tg it cc cs) em D σ H N) : wIG T C m noPin noW it σ H fun J H1 => tLp (gTg m.K tg) (tT T C m noPin noW cc) ws (innC T C m cs em D) J σ H1 N := by
  obtain ⟨c₁, H₁, c, me, He, ρ, S, acc, acc', S', hD, s, E, w, ro, g, n, he, fin⟩ := h
  unfold evC at he
  obtain ⟨xs, S1, h1, h2⟩ := bind_okO he
  refine ⟨c, ρ, S, me, He, E c H s (Le.refl c), w, ?_⟩
  rw [h1]
  intro c1 H1 J s1 w1 wk
  obtain ⟨u0, hu0⟩ := ro.some
  obtain ⟨g1, n1⟩ := s1.off hu0 g n
  split at h2
  · exact lp_of htg hD (s.trans s1) (E.le s1.le) w1 (ro.mono s1 n) g1 n1 (fun i c2 H2 S st w => wk i c2 H2 S st.2 w) h2 fun c' H' s' l' w' ro' g' n' => fin c' H' s' (s1.le.trans l') w' ro' g' n'
  · cases h2
end R

set_option maxHeartbeats 4000000
/-! Comprehensions as expressions, as statements. -/
namespace R
open PySem PySem.Spec PyProof.Rows L2
theorem CodeOk.imp {Y : Cx} {code : Sem PySem.Fin → Sem PySem.Fin} {i i' : L2.St → Hp → (Hp → Prop) → Prop} {ws : List Nat} (h : CodeOk Y code i ws) (f : ∀ σ H N, i' σ H N → i σ H N) : CodeOk Y code i' ws :=
  fun E hE pins s σ H N I q => h E hE pins s σ H N I (f σ H N q)
/-- the code behind a clause -/
def codeAt (e : Expr) (d : Nat) (gs : List Comprehension) (acc : Value) (env : PySem.Env) (last : Sem PySem.Fin → Sem PySem.Fin) : Sem PySem.Fin → Sem PySem.Fin := match gs with
  | [] => last
  | g :: _ => nextOf e (d + 1) g.iter acc env
/-- what is a comprehension's -/
structure CompE (P : Program) (w : World) (e : Expr) (D : Addr) (last : PySem.Env → Sem PySem.Fin → Sem PySem.Fin) : Prop where
  hq : ∀ d it env, (Code.compLoop e d (.ref it) (.ref D) env).quiet = true
  hu : ∀ (A : Around) d it env, A.under (.compLoop e d (.ref it) (.ref D) env) = A
  hu1 : ∀ (A : Around) d it env, A.under (.compStart e d (.ref it) (.ref D) env) = A
  hden : ∀ d it env tg iter ifs gs, (clausesOf e).drop d = ⟨tg, iter, ifs, 0⟩ :: gs → (∀ g ∈ gs, g.is_async = 0) →
    (model P w).den (.compLoop e d (.ref it) (.ref D) env) = (turnOf e d tg iter ifs (.ref it) (.ref D) env (codeAt e d gs (.ref D) env (last env))).onRaise (fun x => do noteFrame x env; theTreesLotGoes x)
  hden1 : ∀ d it env, (model P w).den (.compStart e d (.ref it) (.ref D) env) = (PySem.compStart e d (.ref it) (.ref D) env).onRaise (fun x => do noteFrame x env; standAt theWindowsPlace)
theorem drop_at {α : Type} {l : List α} {d : Nat} {x : α} {r : List α} (h : l.drop d = x :: r) : l[d]? = some x ∧ l[d + 1]? = r[0]? := by
  have e1 : l[d]? = (l.drop d)[0]? := by rw [List.getElem?_drop, Nat.add_zero]
  have e2 : l[d + 1]? = (l.drop d)[1]? := by rw [List.getElem?_drop]
  rw [e1, e2, h]
  exact ⟨rfl, rfl⟩
theorem compE_list {P : Program} {w : World} {elt : Expr} {gs : List Comprehension} {scope : Scope} {pos : Pos} {D : Addr} : CompE P w (.ListComp elt gs scope pos) D (fun env k => do emitL elt (.ref D) env; k) where
  hq := fun _ _ _ => rfl
  hu := fun _ _ _ _ => rfl
  hu1 := fun _ _ _ _ => rfl
  hden1 := fun _ _ _ => rfl
  hden := fun d it env tg iter ifs r h h0 => by
    have h : gs.drop d = ⟨tg, iter, ifs, 0⟩ :: r := h
    obtain ⟨h1, h2⟩ := drop_at h
    show (PySem.compTurn (.ListComp elt gs scope pos) d (.ref it) (.ref D) env).onRaise _ = _
    congr 1
    cases r with
    | nil => exact turnL_last h1 h2
    | cons g r =>
      obtain ⟨t1, i1, f1, a1⟩ := g
      have : a1 = 0 := h0 _ List.mem_cons_self
      subst this
      exact turnL_more h1 h2
theorem compE_dict {P : Program} {w : World} {k v : Expr} {gs : List Comprehension} {scope : Scope} {pos : Pos} {D : Addr} : CompE P w (.DictComp k v gs scope pos) D (fun env r => do emitD k v D env; r) where
  hq := fun _ _ _ => rfl
  hu := fun _ _ _ _ => rfl
  hu1 := fun _ _ _ _ => rfl
  hden1 := fun _ _ _ => rfl
  hden := fun d it env tg iter ifs r h h0 => by
    have h : gs.drop d = ⟨tg, iter, ifs, 0⟩ :: r := h
    obtain ⟨h1, h2⟩ := drop_at h
    show (PySem.compTurn (.DictComp k v gs scope pos) d (.ref it) (.ref D) env).onRaise _ = _
    congr 1
    cases r with
    | nil => exact turnD_last h1 h2
    | cons g r =>
      obtain ⟨t1, i1, f1, a1⟩ := g
      have : a1 = 0 := h0 _ List.mem_cons_self
      subst this
      exact turnD_more h1 h2
section
variable {X : Cx}
/-- the comprehension, as it is made: list or dict -/
theorem cn_run {tb : Tb} {pins : List (Addr × Obj)} {s : Shared} {σ : L2.St} {H : Hp} {Q : VK} {e tg iter : Expr} {ifs : List Expr} {gs : List Comprehension} {scope : Scope} {own : List (Str × Nat)} {pos' : Pos} {wi : TI} {g : TG} {tt : TT} {inn : Addr → L2.St → Hp → (Hp → Prop) → Prop} {ws : List Nat}
    {use : Option (Value → Sem Unit)} {Qf : Value → Shared → Prop} {newAcc : Sem Value} {ob : Obj} {u : Addr → HO} {last : Addr → PySem.Env → Sem PySem.Fin → Sem PySem.Fin}
    (hc : X.calm = true) (hN : X.N.Nodup) (I : Inv X pins σ H s) (hi : PI X tg iter wi) (ok : BlkOk X.N X.env.scope scope own) (hcl : clausesOf e = ⟨tg, iter, ifs, 0⟩ :: gs) (h0 : ∀ g ∈ gs, g.is_async = 0)
    (hnew : ∀ (A : Around) (E : Value → Shared → Prop) (Q : Value → Shared → Prop) (s : Shared), Q (.ref s.heap.objs.size) { s with heap := s.heap.push ob } → wpAny (model X.prog X.w) A newAcc Q E s)
    (hob : ∀ (H : Hp) (h : Heap), sysModules < h.objs.size → ObjOk X.prog X.w H (h.push ob) h.objs.size (u h.objs.size)) (ce : ∀ D, CompE X.prog X.w e D (last D))
    (hg : ∀ (s : Shared) (H : Hp) (C : Addr) (cl : List (Str × Addr)) (fp : List Addr), PG (X.blk s H scope (compEnvC scope cl C X.env) fp) tg g)
    (ht : ∀ (s : Shared) (H : Hp) (C : Addr) (cl : List (Str × Addr)) (fp : List Addr), PTs (X.blk s H scope (compEnvC scope cl C X.env) fp) ifs tt)
    (hcd : ∀ (D : Addr) (s : Shared) (H : Hp) (C : Addr) (cl : List (Str × Addr)) (fp : List Addr), CodeOk (X.blk s H scope (compEnvC scope cl C X.env) fp) (codeAt e 0 gs (.ref D) (compEnvC scope cl C X.env) (last D (compEnvC scope cl C X.env))) (inn D) ws)
    (hw : ∀ i ∈ ws, i ∈ own.map (·.2)) (hs : ∀ x, foldedSetIterable iter X.env x = pure x)
    (h : tCn u wi g tt (own.map (·.2)) inn σ H Q)
    (fin : ∀ D C s' m H', Inv X pins σ H' s' → Q (.ref D) H' → s'.heap.Ns C m → FpOk X pins H' C → compPost (model X.prog X.w) X.A X.xe use Qf (.ref D) C (.ok .next) s') :
    wpAny (model X.prog X.w) X.A (comprehension e scope X.env pos' newAcc false (eval iter X.env) use) Qf X.xe s :=
  cn_core (code := fun D env => codeAt e 0 gs (.ref D) env (last D env)) hc hN I hi ok hcl hnew hob (fun it D env => (ce D).hq 0 it env) (fun A it D env => (ce D).hu A 0 it env) (fun A it D env => (ce D).hu1 A 0 it env)
    (fun it D env => (ce D).hden 0 it env tg iter ifs gs hcl h0) (fun it D env => (ce D).hden1 0 it env) hg ht hcd hw hs h fin
/-- the list that a comprehension begins with -/
theorem newL_ok (A : Around) (E : Value → Shared → Prop) (Q : Value → Shared → Prop) (s : Shared) (h : Q (.ref s.heap.objs.size) { s with heap := s.heap.push { cls := .type "list", data := .seq ([] : List Value).toArray } }) : wpAny (model X.prog X.w) A (newList []) Q E s :=
  wpAny_newObj_type h (by show 0 ≤ sizeLine; decide)
theorem newLd_ok (H : Hp) (h : Heap) : ObjOk X.prog X.w H (h.push { cls := .type "list", data := .seq ([] : List Value).toArray }) h.objs.size (.lst []) := ⟨Nat.zero_le _, [], 0, .nil, Heap.get?_push_size _ rfl⟩
theorem newDd_ok (A : Around) (E : Value → Shared → Prop) (Q : Value → Shared → Prop) (s : Shared) (h : Q (.ref s.heap.objs.size) { s with heap := s.heap.push { cls := .type "dict", data := .dict #[] } }) : wpAny (model X.prog X.w) A newDict Q E s :=
  wpAny_newObj_type h
/-- behind it, as a value -/
theorem fin_val {pins : List (Addr × Obj)} {σ : L2.St} {Q : VK} (D C : Addr) (s' : Shared) (m : Str → Option Value) (H' : Hp) (I' : Inv X pins σ H' s') (q : Q (.ref D) H') (hn : s'.heap.Ns C m) (f : FpOk X pins H' C) :
    compPost (model X.prog X.w) X.A X.xe none (EP X pins σ Q) (.ref D) C (.ok .next) s' := by
  refine ⟨m, hn, fun h2 sb => ?_⟩
  obtain ⟨f0, f1, f2, f3, f4, f5⟩ := f
  exact ⟨.ref D, H', I'.turned (t' := s'.toks) (fun b o hb z => (sb.2 b hb).trans z) f0 f1 f3 f4 f5, rfl, q⟩
/-- .. stored to a local name -/
theorem fin_name {pins : List (Addr × Obj)} {σ : L2.St} {De : Ends} {i : Nat} {y : Str} {py : Pos} (hN : X.N.Nodup) (hy : X.N[i]? = some y) (hyl : X.env.scope.names.lookup y = some .local) (D C : Addr) (s' : Shared) (m : Str → Option Value) (H' : Hp) (I' : Inv X pins σ H' s')
    (q : gName i (.ref D) σ H' De.nx) (hn : s'.heap.Ns C m) (f : FpOk X pins H' C) : compPost (model X.prog X.w) X.A X.xe (some (assign (.Name y py) X.env)) (fun _ s' => SP X pins De .next s') (.ref D) C (.ok .next) s' := by
  refine wpAny_assign_Name (store_ok2 (v := V.ref D) I' hN hy (.inl hyl) rfl (fun s2 I2 ⟨a, sb, ha⟩ => ?_) (.inr hyl))
  obtain ⟨f0, f1, f2, f3, f4, f5⟩ := f
  have ne : C ≠ a := ha.elim (fun z => by rw [z]; exact f1) fun z w => f4 y a z w.symm
  exact ⟨m, hn.sameBut sb ne, fun h3 sb3 => ⟨_, H', I2.turned (t' := s2.toks) (fun b o hb z => (sb3.2 b hb).trans z) f0 f1 f3 f4 f5, q⟩⟩
end
end R

set_option maxHeartbeats 1000000
/-! The readings of the expressions. -/
namespace R
open PySem L2
section
variable {T : Tab} {C : Calls} {m : Pm} {pin : Pin} {W : WX} {σ : St} {H : Hp} {Q : VK} {a b e : E} {es : Es}
/-- what one expression gives is enough -/
theorem tI_one {c : Cfg} {ρ : REnv} {S : Store} {me : Addr} {He : Hp} {g : Rv → Store → Out Rv} {Q' : VK} (E : EnvR m c H pin me He ρ σ) (w : Wd m c H S) (h : Post m W c H σ ((evE T C a ρ S).bind g) Q)
    (k : ∀ c1 S1 r v H1, Step c H c1 H1 → Wd m c1 H1 S1 → RRv m c1 H1 H v r → Post m W c H σ (g r S1) Q → Q' v H1) : tI T C m pin W a σ H Q' := by
  refine tI_weak (tI_step E (Step.refl c H) w h) ?_
  rintro x H1 ⟨c1, S1, ra, _, s1, w1, x1, h1⟩
  exact k c1 S1 ra x H1 s1 w1 x1 h1
theorem rd_var {i : Nat} (h : tI T C m pin W (.var i) σ H Q) : tVar i σ H Q := by
  obtain ⟨c, ρ, S, me, He, E, w, h⟩ := h
  unfold evE at h
  cases q : ρ[i]? with
  | none => rw [q] at h; exact h.elim
  | some s =>
    rw [q] at h
    have hs := E.at_ i s q
    cases s with
    | val d =>
      cases hs' : σ[i]? with
      | none => rw [hs'] at hs; cases hs
      | some o =>
        rw [hs'] at hs
        cases hs with
        | val r => exact ⟨_, hs', h c H _ (Step.refl c H) w (.val r)⟩
    | _ => exact h.elim
theorem rd_peek {i : Nat} (h : tI T C m pin W (.peek i) σ H Q) : tVar i σ H Q := by
  obtain ⟨c, ρ, S, me, He, E, w, h⟩ := h
  unfold evE at h
  cases q : ρ[i]? with
  | none => rw [q] at h; exact h.elim
  | some s =>
    rw [q] at h
    have hs := E.at_ i s q
    cases s with
    | own o =>
      cases hs' : σ[i]? with
      | none => rw [hs'] at hs; cases hs
      | some o =>
        rw [hs'] at hs
        cases hs with
        | own r g n _ _ => exact ⟨_, hs', h c H _ (Step.refl c H) w (.tmp r g n)⟩
    | _ => exact h.elim
theorem rd_bin {op : Bop} (h : tI T C m pin W (.bin op a b) σ H Q) : tOp (rBin m op) (tI T C m pin W a) (tI T C m pin W b) σ H Q := by
  obtain ⟨c, ρ, S, me, He, E, w, h⟩ := h
  unfold evE at h
  refine tI_weak (tI_two E w h) fun x H1 h => tI_weak h fun y H2 h => ?_
  obtain ⟨c2, S2, ra, rb, s2, w2, xa, xb, h⟩ := h
  cases ha : ra.view S2 with
  | none => simp only [ha] at h; exact h.elim
  | some dx =>
  cases hb : rb.view S2 with
  | none => simp only [ha, hb] at h; exact h.elim
  | some dy =>
  cases hr : binop op dx dy with
  | none => simp only [ha, hb, hr] at h; exact h.elim
  | some r =>
  simp only [ha, hb, hr] at h
  exact ⟨c2, S2, dx, dy, r, w2, xa.view w2 ha, xb.view w2 hb, hr, fun c' H' v s' w' x' => h c' H' v (s2.trans s') w' (x'.back s2.dom)⟩
theorem rd_cmp {op : Cop} (h : tI T C m pin W (.cmp op a b) σ H Q) : tOp (rCmp m op) (tI T C m pin W a) (tI T C m pin W b) σ H Q := by
  obtain ⟨c, ρ, S, me, He, E, w, h⟩ := h
  unfold evE at h
  refine tI_weak (tI_two E w h) fun x H1 h => tI_weak h fun y H2 h => ?_
  obtain ⟨c2, S2, ra, rb, s2, w2, xa, xb, h⟩ := h
  cases ha : ra.view S2 with
  | none => simp only [ha] at h; exact h.elim
  | some dx =>
  cases hb : rb.view S2 with
  | none => simp only [ha, hb] at h; exact h.elim
  | some dy =>
  cases hr : cmpop op dx dy with
  | none => simp only [ha, hb, hr] at h; exact h.elim
  | some r =>
  simp only [ha, hb, hr] at h
  exact ⟨c2, S2, dx, dy, r, w2, xa.view w2 ha, xb.view w2 hb, hr, h c2 H2 _ s2 w2 (.val (.bl r))⟩
theorem rd_isin {neg : Bool} (h : tI T C m pin W (.isin neg a b) σ H Q) : tOp (rIn2 m neg) (tI T C m pin W a) (tI T C m pin W b) σ H Q := by
  obtain ⟨c, ρ, S, me, He, E, w, h⟩ := h
  unfold evE at h
  refine tI_weak (tI_two E w h) fun x H1 h => tI_weak h fun y H2 h => ?_
  obtain ⟨c2, S2, ra, rb, s2, w2, xa, xb, h⟩ := h
  cases ha : ra.view S2 with
  | none => simp only [ha] at h; exact h.elim
  | some dx =>
  cases hb : rb.view S2 with
  | none => simp only [ha, hb] at h; exact h.elim
  | some dy =>
  cases hr : isinop dx dy with
  | none => simp only [ha, hb, hr] at h; exact h.elim
  | some r =>
  simp only [ha, hb, hr] at h
  exact ⟨c2, S2, dx, dy, r, w2, xa.view w2 ha, xb.view w2 hb, hr, h c2 H2 _ s2 w2 (.val (.bl _))⟩
def rIx2 (m : Pm) : R2 := fun x y H Q => rIx m.K x y H Q ∨ rDGet m x y H Q
theorem rd_idx (h : tI T C m pin W (.idx a b) σ H Q) : tOp (rIx2 m) (tI T C m pin W a) (tI T C m pin W b) σ H Q := by
  obtain ⟨c, ρ, S, me, He, E, w, h⟩ := h
  unfold evE at h
  refine tI_weak (tI_two E w h) fun x H1 h1 => tI_weak h1 fun y H2 h2 => ?_
  obtain ⟨c2, S2, ra, rb, s2, w2, xa, xb, h3⟩ := h2
  cases ha : ra.view S2 with
  | none => simp only [ha] at h3; exact h3.elim
  | some dx =>
  cases hb : rb.view S2 with
  | none => simp only [ha, hb] at h3; exact h3.elim
  | some dy =>
  cases hr : idxop dx dy with
  | none => simp only [ha, hb, hr] at h3; exact h3.elim
  | some r =>
  simp only [ha, hb, hr] at h3
  have vx := xa.view w2 ha
  have vy := xb.view w2 hb
  have at_ : ∀ {xs : List D} {vs : List V} {i : Int}, RDs m c2 vs xs → L2.atI xs i = some r → ∃ v, L2.atI vs i = some v ∧ RD m c2 v r := fun {xs vs i} rs e => by
    have hl := rs.length
    unfold L2.atI at e ⊢
    cases hi : L2.ixN xs.length i with
    | none => rw [hi] at e; cases e
    | some j =>
      rw [hi] at e
      rw [hl, hi]
      obtain ⟨v, e1, e2⟩ := rs.get (i := j) (d := r) e
      exact ⟨v, e1, e2⟩
  unfold idxop at hr
  split at hr
  · obtain ⟨p, vs, rfl, hp, rs⟩ := vx.lst w2
    cases vy.int
    obtain ⟨v, e1, e2⟩ := at_ rs hr
    exact .inl (.inl ⟨p, vs, _, v, rfl, rfl, SqL.of hp, e1, h3 c2 H2 _ s2 w2 (.val e2)⟩)
  · obtain ⟨p, vs, rfl, hp, _, rs⟩ := vx.tup w2
    cases vy.int
    obtain ⟨v, e1, e2⟩ := at_ rs hr
    exact .inl (.inr (.inl ⟨p, vs, _, v, rfl, rfl, hp, e1, h3 c2 H2 _ s2 w2 (.val e2)⟩))
  · obtain ⟨k, hk, hg⟩ := Option.bind_eq_some_iff.mp hr
    obtain ⟨⟨xs, rfl⟩, _, _⟩ := keyOf_is hk
    exact .inr ⟨c2, S2, _, _, k, r, w2, vx, vy.tupD, hk, hg, fun v x => h3 c2 H2 v s2 w2 (.val x)⟩
  · cases hr
theorem rd_neg (h : tI T C m pin W (.neg a) σ H Q) : tUn (rU fun i => .int (-i)) (tI T C m pin W a) σ H Q := by
  obtain ⟨c, ρ, S, me, He, E, w, h⟩ := h
  unfold evE at h
  refine tI_one E w h fun c1 S1 r v H1 s1 w1 x1 h => ?_
  split at h
  · cases x1 with
    | val x => cases x; exact ⟨_, rfl, h c1 H1 _ s1 w1 (.val (.int _))⟩
  · exact h.elim
theorem rd_not (h : tI T C m pin W (.not a) σ H Q) : tNotV (tI T C m pin W a) σ H Q := by
  obtain ⟨c, ρ, S, me, He, E, w, h⟩ := h
  unfold evE at h
  refine tI_one E w h fun c1 S1 r v H1 s1 w1 x1 h => ?_
  split at h
  · exact ⟨_, bl_of x1, h c1 H1 _ s1 w1 (.val (.bl _))⟩
  · exact h.elim
theorem rdT_not {Q : Bool → Hp → Prop} (h : tT T C m pin W (.not a) σ H Q) : tNot (tT T C m pin W a) σ H Q := by
  refine tI_weak (rd_not h) ?_
  rintro v H1 ⟨b, rfl, b', e, q⟩
  cases e
  exact ⟨b, rfl, q⟩
theorem rd_and (h : tI T C m pin W (.and a b) σ H Q) : tAndV (tI T C m pin W a) (tI T C m pin W b) σ H Q := by
  obtain ⟨c, ρ, S, me, He, E, w, h⟩ := h
  unfold evE at h
  refine tI_one E w h fun c1 S1 r v H1 s1 w1 x1 h => ?_
  split at h
  · exact ⟨_, bl_of x1, iteT ⟨c1, ρ, S1, me, He, E.step s1, w1, by
      cases q : evE T C b ρ S1 with
      | bad => rw [q] at h; exact h
      | exc _ _ _ => rw [q] at h; exact fun c' H' cls d s' w' x' => h c' H' cls d (s1.trans s') w' x'
      | ok r S2 => rw [q] at h; exact fun c' H' v s' w' x' => h c' H' v (s1.trans s') w' (x'.back s1.dom)⟩⟩
  · exact ⟨_, bl_of x1, iteF (h c1 H1 _ s1 w1 (.val (.bl _)))⟩
  · exact h.elim
theorem rdT_and {Q : Bool → Hp → Prop} (h : tT T C m pin W (.and a b) σ H Q) : tAnd (tT T C m pin W a) (tT T C m pin W b) σ H Q := by
  refine tI_weak (rd_and h) ?_
  rintro v H1 ⟨b, rfl, q⟩
  refine ⟨b, rfl, ?_⟩
  cases b with
  | true => exact iteT q
  | false =>
    obtain ⟨b', e, q⟩ : ∃ b', V.bl false = V.bl b' ∧ Q b' H1 := q
    cases e
    exact iteF q
theorem rd_or (h : tI T C m pin W (.or a b) σ H Q) : tOrV (tI T C m pin W a) (tI T C m pin W b) σ H Q := by
  obtain ⟨c, ρ, S, me, He, E, w, h⟩ := h
  unfold evE at h
  refine tI_one E w h fun c1 S1 r v H1 s1 w1 x1 h => ?_
  split at h
  · exact ⟨_, bl_of x1, iteT (h c1 H1 _ s1 w1 (.val (.bl _)))⟩
  · exact ⟨_, bl_of x1, iteF ⟨c1, ρ, S1, me, He, E.step s1, w1, by
      cases q : evE T C b ρ S1 with
      | bad => rw [q] at h; exact h
      | exc _ _ _ => rw [q] at h; exact fun c' H' cls d s' w' x' => h c' H' cls d (s1.trans s') w' x'
      | ok r S2 => rw [q] at h; exact fun c' H' v s' w' x' => h c' H' v (s1.trans s') w' (x'.back s1.dom)⟩⟩
  · exact h.elim
theorem rdT_or {Q : Bool → Hp → Prop} (h : tT T C m pin W (.or a b) σ H Q) : tOr (tT T C m pin W a) (tT T C m pin W b) σ H Q := by
  refine tI_weak (rd_or h) ?_
  rintro v H1 ⟨b, rfl, q⟩
  refine ⟨b, rfl, ?_⟩
  cases b with
  | false => exact iteF q
  | true =>
    obtain ⟨b', e, q⟩ : ∃ b', V.bl true = V.bl b' ∧ Q b' H1 := q
    cases e
    exact iteT q
theorem rd_ite {c : E} (h : tI T C m pin W (.ite c a b) σ H Q) : tIf (tT T C m pin W c) (tI T C m pin W a) (tI T C m pin W b) σ H Q := by
  obtain ⟨c, ρ, S, me, He, E, w, h⟩ := h
  unfold evE at h
  refine tI_one E w h fun c1 S1 r v H1 s1 w1 x1 h => ?_
  have go : ∀ {e : R.E}, Post m W c H σ (evE T C e ρ S1) Q → tI T C m pin W e σ H1 Q := fun {e} h => ⟨c1, ρ, S1, me, He, E.step s1, w1, by
      cases q : evE T C e ρ S1 with
      | bad => rw [q] at h; exact h
      | exc _ _ _ => rw [q] at h; exact fun c' H' cls d s' w' x' => h c' H' cls d (s1.trans s') w' x'
      | ok r S2 => rw [q] at h; exact fun c' H' v s' w' x' => h c' H' v (s1.trans s') w' (x'.back s1.dom)⟩
  split at h
  · exact ⟨_, bl_of x1, iteT (go h)⟩
  · exact ⟨_, bl_of x1, iteF (go h)⟩
  · exact h.elim
theorem rd_isNone (h : tI T C m pin W (.isNone false a) σ H Q) : tIsN (tI T C m pin W a) σ H Q := by
  obtain ⟨c, ρ, S, me, He, E, w, h⟩ := h
  unfold evE at h
  refine tI_one E w h fun c1 S1 r v H1 s1 w1 x1 h => ?_
  split at h
  · rename_i d
    cases x1 with
    | val x =>
    have e : decide (v = .non) = isNon d := by
      cases x <;> rfl
    show Q (V.bl (decide (v = .non))) H1
    rw [e]
    exact h c1 H1 _ s1 w1 (.val (by rw [bne_false']; exact .bl _))
  · exact h.elim
theorem rd_isNotNone (h : tI T C m pin W (.isNone true a) σ H Q) : tNotN (tI T C m pin W a) σ H Q := by
  obtain ⟨c, ρ, S, me, He, E, w, h⟩ := h
  unfold evE at h
  refine tI_one E w h fun c1 S1 r v H1 s1 w1 x1 h => ?_
  split at h
  · rename_i d
    cases x1 with
    | val x =>
    have e : decide (v = .non) = isNon d := by
      cases x <;> rfl
    show Q (V.bl (!decide (v = .non))) H1
    rw [e]
    exact h c1 H1 _ s1 w1 (.val (by rw [bne_true']; exact .bl _))
  · exact h.elim
theorem rd_tup (h : tI T C m pin W (.tup es) σ H Q) : tTup (tL T C m pin W es) σ H Q := by
  obtain ⟨c, ρ, S, me, He, E, w, h⟩ := h
  unfold evE at h
  obtain ⟨c0, ρ0, S0, me0, He0, E0, w0, z⟩ := tL_step E (Step.refl c H) w h
  refine ⟨c0, ρ0, S0, me0, He0, E0, w0, ?_⟩
  cases q : evL T C es ρ0 S0 with
  | bad => rw [q] at z; exact z
  | exc _ _ _ => rw [q] at z; exact z
  | ok ds S1 =>
  rw [q] at z
  intro c' H' vs s' w' x'
  obtain ⟨c1, S2, ds2, _, s1, w1, r1, h⟩ := z c' H' vs s' w' x'
  split at h
  · rename_i hl
    refine ⟨by rw [r1.length]; exact lim_size hl, fun p hp => ?_⟩
    refine k_newT (m := m) (fun c2 H2 v s2 w2 x2 => h c2 H2 v (s1.trans s2) w2 (x2.back s1.dom)) w1 r1 hp
  · exact h.elim
theorem rd_lst (h : tI T C m pin W (.lst es) σ H Q) : tLst (tL T C m pin W es) σ H Q := by
  obtain ⟨c, ρ, S, me, He, E, w, h⟩ := h
  unfold evE at h
  obtain ⟨c0, ρ0, S0, me0, He0, E0, w0, z⟩ := tL_step E (Step.refl c H) w h
  refine ⟨c0, ρ0, S0, me0, He0, E0, w0, ?_⟩
  cases q : evL T C es ρ0 S0 with
  | bad => rw [q] at z; exact z
  | exc _ _ _ => rw [q] at z; exact z
  | ok ds S1 =>
  rw [q] at z
  intro c' H' vs s' w' x'
  obtain ⟨c1, S2, ds2, _, s1, w1, r1, h⟩ := z c' H' vs s' w' x'
  split at h
  · rename_i hl
    refine ⟨by rw [r1.length]; exact lim_size hl, fun p hp => ?_⟩
    refine k_newL (m := m) (fun c2 H2 v s2 w2 x2 => h c2 H2 v (s1.trans s2) w2 (x2.back s1.dom)) w1 r1 hp
  · exact h.elim
theorem rd_dct0 (h : tI T C m pin W .dct0 σ H Q) : tNewD m σ H Q := by
  obtain ⟨c, ρ, S, me, He, E, w, h⟩ := h
  unfold evE at h
  intro p hp
  obtain ⟨s1, w1⟩ := step_new (o := dHO m p ([], nullO)) w hp
  obtain ⟨nA, nG⟩ := w.new hp
  exact h c _ _ s1 w1 (.own (.dct upd_same .nil) nG nA hp)
theorem rd_nil {Q : List V → Hp → Prop} (h : tL T C m pin W .nil σ H Q) : tNil σ H Q := by
  obtain ⟨c, ρ, S, me, He, E, w, h⟩ := h
  exact h c H [] (Step.refl c H) w .nil
theorem rd_cons {Q : List V → Hp → Prop} (h : tL T C m pin W (.cons e es) σ H Q) : tCons (tI T C m pin W e) (tL T C m pin W es) σ H Q := by
  obtain ⟨c, ρ, S, me, He, E, w, h⟩ := h
  unfold evL at h
  refine tI_weak (tI_stepL E (Step.refl c H) w h) ?_
  rintro x H1 ⟨c1, S1, r, _, s1, w1, x1, h⟩
  cases hf : r.frz with
  | none => simp only [hf] at h; exact h.elim
  | some d =>
  simp only [hf] at h
  obtain ⟨c2, s2, w2, r2, l2⟩ := x1.frz w1 s1 hf
  obtain ⟨c0, ρ0, S0, me0, He0, E0, w0, z⟩ := tL_stepL (E.step s2) s2 w2 h
  refine ⟨c0, ρ0, S0, me0, He0, E0, w0, ?_⟩
  cases q : evL T C es ρ0 S0 with
  | bad => rw [q] at z; exact z
  | exc _ _ _ => rw [q] at z; exact z
  | ok ds S1 =>
  rw [q] at z
  intro c' H' vs s' w' x'
  obtain ⟨c3, S3, ds2, _, s3, w3, r3, h⟩ := z c' H' vs s' w' x'
  exact h c3 H' _ (s2.trans s3) w3 (.cons (r2.le s3.le) r3)
theorem rd_star {Q : List V → Hp → Prop} (h : tL T C m pin W (.star e es) σ H Q) : StX.tStar m.K (tI T C m pin W e) (tL T C m pin W es) σ H Q := by
  obtain ⟨c, ρ, S, me, He, E, w, h⟩ := h
  unfold evL at h
  refine tI_weak (tI_stepL E (Step.refl c H) w h) ?_
  rintro x H1 ⟨c1, S1, r, _, s1, w1, x1, h⟩
  cases hb : r.frz.bind D.seq with
  | none => simp only [hb] at h; exact h.elim
  | some xs =>
  simp only [hb] at h
  obtain ⟨d, hf, hd⟩ := Option.bind_eq_some_iff.mp hb
  obtain ⟨c2, s2, w2, r2, l2⟩ := x1.frz w1 s1 hf
  have go : ∀ {vs : List V}, RDs m c2 vs xs → tL T C m pin W es σ H1 fun ys H2 => Q (vs ++ ys) H2 := fun {vs} rs => by
    obtain ⟨c0, ρ0, S0, me0, He0, E0, w0, z⟩ := tL_stepL (E.step s2) s2 w2 h
    refine ⟨c0, ρ0, S0, me0, He0, E0, w0, ?_⟩
    cases q : evL T C es ρ0 S0 with
    | bad => rw [q] at z; exact z
    | exc _ _ _ => rw [q] at z; exact z
    | ok ds S1 =>
    rw [q] at z
    intro c' H' us s' w' x'
    obtain ⟨c3, S3, ds2, _, s3, w3, r3, h⟩ := z c' H' us s' w' x'
    exact h c3 H' _ (s2.trans s3) w3 ((rs.le s3.le).append r3)
  cases d with
  | lst ys =>
    cases hd
    cases r2 with
    | lst h1 h2 => exact ⟨_, _, rfl, .inr (SqL.of (w2.le _ _ h1)), go h2⟩
  | tup ys =>
    cases hd
    cases r2 with
    | tup h1 h2 => exact ⟨_, _, rfl, .inl (sqT_mono w2.le h1), go h2⟩
  | _ => cases hd
end
end R

set_option maxHeartbeats 1000000
/-! Soundness of the expressions. -/
namespace R
open PySem L2
section
variable {T : Tab} {C : Calls} {m : Pm} {pin : Pin} {W : WX} {σ : St} {H : Hp} {Q : VK} {a b e : E} {es : Es}
theorem rd_fld {c j : Nat} {x : Str} {n : Nm} (hc : T.cls c = true → ClsF m n T c) (hj : (m.fn c)[j]? = some x) (h : tI T C m pin W (.fld c j a) σ H Q) : tFld m.K (tI T C m pin W a) x σ H Q := by
  obtain ⟨c0, ρ, S, me, He, E, w, h⟩ := h
  unfold evE at h
  refine tI_one E w h fun c1 S1 r v H1 s1 w1 x1 h1 => ?_
  cases hv : r.view S1 with
  | none => simp only [hv] at h1; exact h1.elim
  | some d =>
  simp only [hv] at h1
  cases d with
  | ins c' ds =>
    simp only at h1
    split at h1
    · rename_i hcc
      obtain ⟨rfl, hcls⟩ := hcc
      cases hd : ds[j]? with
      | none => simp only [hd] at h1; exact h1.elim
      | some d =>
      simp only [hd] at h1
      obtain ⟨p, dx, vs, rfl, hp, hl, rs⟩ := (x1.view w1 hv).ins w1
      obtain ⟨v, e1, e2⟩ := rs.get hd
      have cf := hc hcls
      refine ⟨p, _, dx, _, v, rfl, hp, cf.cls, cf.no x (List.mem_of_getElem? hj), ?_, h1 c1 H1 v s1 w1 (.val e2)⟩
      exact zip_lookup cf.nd hj e1
    · exact h1.elim
  | _ => exact h1.elim
where
  zip_lookup : ∀ {ns : List Str} {vs : List V} {j : Nat} {x : Str} {v : V}, ns.Nodup → ns[j]? = some x → vs[j]? = some v → (ns.zip vs).lookup x = some v
  | [], _, _, _, _, _, h, _ => by simp at h
  | _ :: _, [], _, _, _, _, _, h => by simp at h
  | n :: ns, u :: vs, 0, x, v, _, h1, h2 => by
    simp at h1 h2
    subst h1 h2
    simp [List.lookup_cons]
  | n :: ns, u :: vs, j + 1, x, v, nd, h1, h2 => by
    have h1' : ns[j]? = some x := by simpa using h1
    have h2' : vs[j]? = some v := by simpa using h2
    rw [List.nodup_cons] at nd
    have ne : (x == n) = false := by
      have := List.mem_of_getElem? h1'
      simp only [beq_eq_false_iff_ne]
      intro e
      subst e
      exact nd.1 this
    rw [List.zip_cons_cons, List.lookup_cons, ne]
    exact zip_lookup nd.2 h1' h2'
theorem rd_call {f k : Nat} (ar : Ar C f k) (h : tI T C m pin W (.call f es) σ H Q) : tCallS (spF m C f k) (WE W) (tL T C m pin W es) σ H Q := by
  obtain ⟨c, ρ, S, me, He, E, w, h⟩ := h
  unfold evE at h
  obtain ⟨c0, ρ0, S0, me0, He0, E0, w0, z⟩ := tL_step E (Step.refl c H) w h
  refine ⟨c0, ρ0, S0, me0, He0, E0, w0, ?_⟩
  cases q : evL T C es ρ0 S0 with
  | bad => rw [q] at z; exact z
  | exc _ _ _ => rw [q] at z; exact z
  | ok ds S1 =>
  rw [q] at z
  intro c' H' vs s' w' x'
  obtain ⟨c1, S2, ds2, _, s1, w1, r1, h⟩ := z c' H' vs s' w' x'
  have h2 := post_call h s1
  exact ⟨c1, ds2, S2, w1, r1, by rw [r1.length]; exact ar_len ar h2, h2⟩
theorem rd_make {cc f k : Nat} (ar : Ar C f k) (h : tI T C m pin W (.make cc f es) σ H Q) : tMakeS (m.cl cc) (spK m C f k cc) (WE W) (tL T C m pin W es) σ H Q := by
  obtain ⟨c, ρ, S, me, He, E, w, h⟩ := h
  unfold evE at h
  obtain ⟨c0, ρ0, S0, me0, He0, E0, w0, z⟩ := tL_step E (Step.refl c H) w h
  refine ⟨c0, ρ0, S0, me0, He0, E0, w0, ?_⟩
  cases q : evL T C es ρ0 S0 with
  | bad => rw [q] at z; exact z
  | exc _ _ _ => rw [q] at z; exact z
  | ok ds S1 =>
  rw [q] at z
  intro c' H' vs s' w' x'
  obtain ⟨c1, S2, ds2, _, s1, w1, r1, h⟩ := z c' H' vs s' w' x'
  intro x dx hx hdx hne
  refine ⟨c1, ds2, S2, H', x, dx, vs, rfl, w1, r1, ?_, hx, hdx, hne, rfl, ?_⟩
  · rw [r1.length]
    rcases ar ds2 S2 with e | e
    · rw [e] at h; exact h.elim
    · exact e
  cases e : C f ds2 S2 with
  | bad => rw [e] at h; exact h
  | exc k es S3 =>
    rw [e] at h
    exact fun c' H' cls d s' w' x' => h c' H' cls d (s1.trans s') w' x'
  | ok r S3 =>
    rw [e, Out.bind_ok] at h
    cases r with
    | val d => exact h.elim
    | tmp o => exact h.elim
    | own o =>
      intro c' H'' s' w' x'
      refine ⟨rfl, ?_⟩
      cases o with
      | lst _ => exact h.elim
      | dct _ => exact h.elim
      | ins c'' fs =>
        simp only at h
        split at h
        · rename_i hc
          subst hc
          exact h c' H'' _ (s1.trans s') w' (x'.back s1.dom)
        · exact h.elim
theorem rd_prop {cc f k : Nat} (ar : Ar C f k) (h : tI T C m pin W (.prop cc f a) σ H Q) : tProp (m.cl cc) (spF m C f k) [] E0 (tI T C m pin W a) σ H Q := by
  obtain ⟨c0, ρ, S, me, He, E, w, h⟩ := h
  unfold evE at h
  refine tI_one E w h fun c1 S1 r v H1 s1 w1 x1 h1 => ?_
  cases r with
  | own _ => exact h1.elim
  | tmp _ => exact h1.elim
  | val d =>
  simp only at h1
  cases hv : (Rv.val d).view S1 with
  | none => simp only [hv] at h1; exact h1.elim
  | some d2 =>
  simp only [hv] at h1
  cases d2 with
  | ins c' ds =>
    simp only at h1
    split at h1
    · rename_i hcc
      subst hcc
      obtain ⟨p, dx, vs, rfl, hp, hl, rs⟩ := (x1.view w1 hv).ins w1
      refine ⟨p, dx, _, rfl, hp, ?_⟩
      cases x1 with
      | val x1 =>
      have key : PostC m c1 H1 (C f [d] S1) Q L2.E0 := by
        cases e : C f [d] S1 with
        | bad => rw [e] at h1; exact h1
        | exc _ _ _ => rw [e] at h1; exact h1.elim
        | ok r S2 =>
          rw [e] at h1
          exact fun c' H' v s' w' x' => h1 c' H' v (s1.trans s') w' (x'.back s1.dom)
      exact ⟨c1, [d], S1, w1, .cons x1 .nil, (ar_len ar key), key⟩
    · exact h1.elim
  | _ => exact h1.elim
theorem tL_weak {Q' Q2 : List V → Hp → Prop} (h : tL T C m pin W es σ H Q2) (q : ∀ v H', Q2 v H' → Q' v H') : tL T C m pin W es σ H Q' := by
  obtain ⟨c, ρ, S, me, He, h1, h2, h3⟩ := h
  refine ⟨c, ρ, S, me, He, h1, h2, ?_⟩
  cases e : evL T C es ρ S with
  | ok r S => rw [e] at h3; exact fun c' H' v s w x => q _ _ (h3 c' H' v s w x)
  | exc k ds S => rw [e] at h3; exact h3
  | bad => rw [e] at h3; exact h3
theorem rd_meth {cc f k : Nat} {mn : Str} (hst : es.starry = false) (hno : mn ∉ m.fn cc) (ar : Ar C f k) (h : tI T C m pin W (.meth cc f a es) σ H Q) : tMethU (m.cl cc) mn (spF m C f k) (WE W) (tI T C m pin W a) (tL T C m pin W es) σ H Q := by
  obtain ⟨c0, ρ, S, me, He, E, w, h⟩ := h
  unfold evE at h
  refine tI_one E w h fun c1 S1 r v H1 s1 w1 x1 h1 => ?_
  cases r with
  | own _ => exact h1.elim
  | tmp _ => exact h1.elim
  | val d =>
  simp only at h1
  cases hv : (Rv.val d).view S1 with
  | none => simp only [hv] at h1; exact h1.elim
  | some d2 =>
  simp only [hv] at h1
  cases d2 with
  | ins c' ds =>
    simp only at h1
    split at h1
    · rename_i hcc
      subst hcc
      obtain ⟨p, dx, vs, rfl, hp, hl, rs⟩ := (x1.view w1 hv).ins w1
      refine ⟨p, dx, _, rfl, hp, no_lookup hno, ?_⟩
      cases x1 with
      | val x1 =>
      simp only [hst, Bool.false_eq_true, if_false] at h1
      refine tL_weak (tL_step (E.step s1) s1 w1 h1) ?_
      rintro us H2 ⟨c2, S2, ds2, _, s2, w2, r2, h2⟩
      have h3 := post_call h2 (s1.trans s2)
      exact ⟨c2, d :: ds2, S2, w2, .cons (x1.le s2.le) r2, by rw [List.length_cons, r2.length]; exact ar_len ar h3, h3⟩
    · exact h1.elim
  | _ => exact h1.elim
where
  no_lookup : ∀ {ns : List Str} {vs : List V}, mn ∉ ns → (ns.zip vs).lookup mn = none
  | [], _, _ => rfl
  | _ :: _, [], _ => rfl
  | n :: ns, v :: vs, h => by
    rw [List.mem_cons, not_or] at h
    rw [List.zip_cons_cons, List.lookup_cons]
    have : (mn == n) = false := by simpa using h.1
    rw [this]
    exact no_lookup h.2
theorem rd_methST {cc f k : Nat} {mn : Str} {g : Addr} (hst : es.starry = true) (hno : mn ∉ m.fn cc) (ar : Ar C f k) (h : tI T C m pin W (.meth cc f a es) σ H Q) : tMethST (m.cl cc) mn g (spF m C f k) E0 (tI T C m pin W a) (tL T C m pin W es) σ H Q := by
  obtain ⟨c0, ρ, S, me, He, E, w, h⟩ := h
  unfold evE at h
  refine tI_one E w h fun c1 S1 r v H1 s1 w1 x1 h1 => ?_
  cases r with
  | own _ => exact h1.elim
  | tmp _ => exact h1.elim
  | val d =>
  simp only at h1
  cases hv : (Rv.val d).view S1 with
  | none => simp only [hv] at h1; exact h1.elim
  | some d2 =>
  simp only [hv] at h1
  cases d2 with
  | ins c' ds =>
    simp only at h1
    split at h1
    · rename_i hcc
      subst hcc
      obtain ⟨p, dx, vs, rfl, hp, hl, rs⟩ := (x1.view w1 hv).ins w1
      refine ⟨p, dx, _, rfl, hp, rd_meth.no_lookup hno, fun q hq => ?_⟩
      cases x1 with
      | val x1 =>
      obtain ⟨sq, wq⟩ := step_new (o := .met g p) w1 hq
      obtain ⟨nA, nG⟩ := w1.new hq
      refine tL_weak (tL_step (E.step (s1.trans sq)) (s1.trans sq) wq h1) ?_
      rintro us H2 ⟨c2, S2, ds2, _, s2, w2, r2, h2⟩
      have key : PostC m c2 H2 (C f (d :: ds2) S2) Q E0 := by
        cases e : C f (d :: ds2) S2 with
        | bad => rw [e] at h2; exact h2
        | exc _ _ _ => rw [e] at h2; exact h2.elim
        | ok r S3 =>
          rw [e] at h2
          exact fun c' H' v s' w' x' => h2 c' H' v ((s1.trans (sq.trans s2)).trans s') w' (x'.back (s1.trans (sq.trans s2)).dom)
      exact ⟨s2.frame _ _ upd_same nA, c2, d :: ds2, S2, w2, .cons (x1.le s2.le) r2, by rw [List.length_cons, r2.length]; exact ar_len ar key, key⟩
    · exact h1.elim
  | _ => exact h1.elim
theorem tMethST_one {C' g : Addr} {mn : Str} {sp : Sp} {Ex : XK} {e : E} (h : tMethST C' mn g sp Ex (tI T C m pin W a) (tL T C m pin W (.star e .nil)) σ H Q) : tMethST C' mn g sp Ex (tI T C m pin W a) (StX.tStar m.K (tI T C m pin W e) tNil) σ H Q :=
  tI_weak h fun x H1 ⟨p, dx, fs, e1, e2, e3, q⟩ => ⟨p, dx, fs, e1, e2, e3, fun q1 hq => tI_weak (rd_star (q q1 hq)) fun y H2 ⟨b, vs, z1, z2, z3⟩ => ⟨b, vs, z1, z2, rd_nil z3⟩⟩
theorem tMethU_nil {C' : Addr} {mn : Str} {sp : Sp} {Ex : St → XK} (h : tMethU C' mn sp Ex (tI T C m pin W a) (tL T C m pin W .nil) σ H Q) : tMethU C' mn sp Ex (tI T C m pin W a) tNil σ H Q :=
  tI_weak h fun x H1 ⟨p, dx, fs, e1, e2, e3, q⟩ => ⟨p, dx, fs, e1, e2, e3, rd_nil q⟩
theorem rd_eqOwn {cc f : Nat} (h : tI T C m pin W (.eqOwn false cc f a b) σ H Q) : tOp (rEqOwn m T C f cc) (tI T C m pin W a) (tI T C m pin W b) σ H Q := by
  obtain ⟨c, ρ, S, me, He, E, w, h⟩ := h
  unfold evE at h
  refine tI_weak (tI_two E w h) fun x H1 h1 => tI_weak h1 fun y H2 h2 => ?_
  obtain ⟨c2, S2, ra, rb, s2, w2, xa, xb, h3⟩ := h2
  cases hf : rb.frz with
  | none => simp only [hf] at h3; exact h3.elim
  | some d =>
  cases ra with
  | own _ => simp only [hf] at h3; exact h3.elim
  | tmp _ => simp only [hf] at h3; exact h3.elim
  | val da =>
  simp only [hf] at h3
  cases da with
  | ins c' ds =>
    simp only at h3
    split at h3
    · rename_i hcc
      obtain ⟨rfl, hok⟩ := hcc
      obtain ⟨c3, s3, w3, r3, l3⟩ := xb.frz w2 s2 hf
      cases xa with
      | val xa =>
      refine ⟨c3, S2, ds, d, w3, xa.le l3, r3, hok, ?_⟩
      cases e : C f [.ins c' ds, d] S2 with
      | bad => rw [e] at h3; exact h3
      | exc _ _ _ => rw [e] at h3; exact h3.elim
      | ok r S3 =>
        rw [e] at h3
        cases r with
        | own _ => exact h3.elim
        | tmp _ => exact h3.elim
        | val dd =>
        cases dd with
        | bl q => exact fun c4 H4 s4 w4 => h3 c4 H4 _ (s3.trans s4) w4 (.val (by rw [bne_false']; exact .bl q))
        | _ => exact h3.elim
    · exact h3.elim
  | _ => exact h3.elim
/-- one argument, any outcome -/
theorem tA_one {f : Rv → Store → Out Rv} {Q' : List V → Hp → Prop} {c : Cfg} {ρ : REnv} {S : Store} {me : Addr} {He : Hp} (E : EnvR m c H pin me He ρ σ) (w : Wd m c H S) (h : Post m W c H σ ((evE T C a ρ S).bind f) Q)
    (k : ∀ c1 S1 r v H1, Step c H c1 H1 → Wd m c1 H1 S1 → RRv m c1 H1 H v r → Post m W c H σ (f r S1) Q → Q' [v] H1) : tCons (tI T C m pin W a) tNil σ H Q' :=
  tI_one E w h fun c1 S1 r v H1 s1 w1 x1 h1 => k c1 S1 r v H1 s1 w1 x1 h1
def rInt1 : List V → Hp → VK → Prop := fun xs H Q => (∃ i, xs = [.int i] ∧ Q (.int i) H) ∨ ∃ k, xs = [.bl k] ∧ Q (.int (if k then 1 else 0)) H
def rInt2 : List V → Hp → VK → Prop := fun xs H Q => rInt1 xs H Q ∨ ∃ a n, xs = [.str a] ∧ PySem.intText? a = some n ∧ a.length ≤ 640 ∧ Q (.int n) H
theorem call_int2 {X : Cx} : CallR X (.type "int") rInt2 := by
  intro pins s σ H xs us Q I r h
  rcases h with h | h
  · exact call_int1 pins s σ H xs us Q I r h
  · exact call_int_str pins s σ H xs us Q I r h
theorem rd_toInt (h : tI T C m pin W (.toInt a) σ H Q) : tCB rInt2 (tCons (tI T C m pin W a) tNil) σ H Q := by
  obtain ⟨c, ρ, S, me, He, E, w, h⟩ := h
  unfold evE at h
  refine tA_one E w h fun c1 S1 r v H1 s1 w1 x1 h1 => ?_
  split at h1
  · cases x1 with
    | val x => cases x; exact .inl (.inl ⟨_, rfl, h1 c1 H1 _ s1 w1 (.val (.int _))⟩)
  · cases x1 with
    | val x => cases x; exact .inl (.inr ⟨_, rfl, h1 c1 H1 _ s1 w1 (.val (.int _))⟩)
  · rename_i a0
    cases x1 with
    | val x =>
    cases x
    cases hn : PySem.intText? a0 with
    | none => simp only [hn] at h1; exact h1.elim
    | some n =>
    simp only [hn] at h1
    split at h1
    · rename_i hl
      exact .inr ⟨_, n, rfl, hn, hl, h1 c1 H1 _ s1 w1 (.val (.int _))⟩
    · exact h1.elim
  · exact h1.elim
def rListOf (K : PySem.W.Frag) : List V → Hp → VK → Prop := fun xs H Q => ∃ p ys, xs = [.ref p] ∧ (SqL K H p ys ∨ SqT K H p ys) ∧ ∀ l, H l = none → Q (.ref l) (upd H l (.lst ys))
theorem rd_toList (h : tI T C m pin W (.toList a) σ H Q) : tCB (rListOf m.K) (tCons (tI T C m pin W a) tNil) σ H Q := by
  obtain ⟨c, ρ, S, me, He, E, w, h⟩ := h
  unfold evE at h
  refine tA_one E w h fun c1 S1 r v H1 s1 w1 x1 h1 => ?_
  have key : ∀ {vs : List V} {xs : List D} {l : Addr}, RDs m c1 vs xs → Post m W c H σ (Out.ok (.own (.lst xs)) S1) Q → H1 l = none → Q (.ref l) (upd H1 l (.lst vs)) := fun rs h hn =>
    k_newL (m := m) (fun c2 H2 v s2 w2 x2 => h c2 H2 v (s1.trans s2) w2 (x2.back s1.dom)) w1 rs hn
  cases hv : r.view S1 with
  | none => simp only [hv] at h1; exact h1.elim
  | some d =>
  simp only [hv] at h1
  have vv := x1.view w1 hv
  cases d with
  | lst xs =>
    obtain ⟨p, vs, rfl, hp, rs⟩ := vv.lst w1
    exact ⟨p, vs, rfl, .inl (SqL.of hp), fun l hl => key rs h1 hl⟩
  | tup xs =>
    obtain ⟨p, vs, rfl, hp, _, rs⟩ := vv.tup w1
    exact ⟨p, vs, rfl, .inr hp, fun l hl => key rs h1 hl⟩
  | scr xs =>
    generalize e : D.scr xs = d at vv
    cases vv with
    | val x =>
      subst e
      cases x with
      | scr h2 h3 => exact ⟨_, _, rfl, .inl (sqL_mono w1.le h2), fun l hl => key h3 h1 hl⟩
    | top x => cases x <;> cases e
  | _ => exact h1.elim
def rLenOf (m : Pm) : List V → Hp → VK → Prop := fun xs H Q => (∃ p ys, xs = [.ref p] ∧ (SqL m.K H p ys ∨ SqT m.K H p ys) ∧ Q (.int ys.length) H) ∨ rLenD m xs H Q
theorem call_len2 {X : Cx} {tb : Tb} : CallR X (.builtin "len") (rLenOf (mX X tb)) := by
  intro pins s σ H xs us Q I r h
  rcases h with h | h
  · exact call_len_seq pins s σ H xs us Q I r h
  · exact call_lenDD pins s σ H xs us Q I r h
theorem rd_len (h : tI T C m pin W (.len a) σ H Q) : tCB (rLenOf m) (tCons (tI T C m pin W a) tNil) σ H Q := by
  obtain ⟨c, ρ, S, me, He, E, w, h⟩ := h
  unfold evE at h
  refine tA_one E w h fun c1 S1 r v H1 s1 w1 x1 h1 => ?_
  cases hv : r.view S1 with
  | none => simp only [hv] at h1; exact h1.elim
  | some d =>
  simp only [hv] at h1
  have vv := x1.view w1 hv
  cases d with
  | lst xs =>
    obtain ⟨p, vs, rfl, hp, rs⟩ := vv.lst w1
    exact .inl ⟨p, vs, rfl, .inl (SqL.of hp), by rw [rs.length]; exact h1 c1 H1 _ s1 w1 (.val (.int _))⟩
  | tup xs =>
    obtain ⟨p, vs, rfl, hp, _, rs⟩ := vv.tup w1
    exact .inl ⟨p, vs, rfl, .inr hp, by rw [rs.length]; exact h1 c1 H1 _ s1 w1 (.val (.int _))⟩
  | dct kvs => exact .inr ⟨c1, S1, v, kvs, rfl, w1, vv, h1 c1 H1 _ s1 w1 (.val (.int _))⟩
  | _ => exact h1.elim
theorem rd_lenO {cc f : Nat} (h : tI T C m pin W (.lenO cc f a) σ H Q) : tCB (rLenO m C f cc) (tCons (tI T C m pin W a) tNil) σ H Q := by
  obtain ⟨c0, ρ, S, me, He, E, w, h⟩ := h
  unfold evE at h
  refine tA_one E w h fun c1 S1 r v H1 s1 w1 x1 h1 => ?_
  cases r with
  | own _ => exact h1.elim
  | tmp _ => exact h1.elim
  | val d =>
  simp only at h1
  cases hv : (Rv.val d).view S1 with
  | none => simp only [hv] at h1; exact h1.elim
  | some d2 =>
  simp only [hv] at h1
  cases d2 with
  | ins c' ds =>
    simp only at h1
    split at h1
    · rename_i hcc
      subst hcc
      obtain ⟨p, dx, vs, rfl, hp, hl, rs⟩ := (x1.view w1 hv).ins w1
      cases x1 with
      | val x1 =>
      refine ⟨c1, S1, d, p, dx, _, rfl, w1, x1, hp, ?_⟩
      cases e : C f [d] S1 with
      | bad => rw [e] at h1; exact h1
      | exc _ _ _ => rw [e] at h1; exact h1.elim
      | ok r S2 =>
        rw [e] at h1
        cases r with
        | own _ => exact h1.elim
        | tmp _ => exact h1.elim
        | val d0 =>
        cases d0 with
        | int n =>
          simp only [Out.nox, Out.bind_ok] at h1
          split at h1
          · rename_i hn
            simp only [Bool.and_eq_true, decide_eq_true_eq] at hn
            exact ⟨hn.1, hn.2, fun c2 H' s2 w2 => h1 c2 H' _ (s1.trans s2) w2 (.val (.int _))⟩
          · exact h1.elim
        | _ => exact h1.elim
    · exact h1.elim
  | _ => exact h1.elim
theorem rd_slc {b' : E} (h : tI T C m pin W (.slc a b b') σ H Q) : tSl (rSl2 m) (tI T C m pin W a) (tPart (tI T C m pin W b)) (tPart (tI T C m pin W b')) σ H Q := by
  obtain ⟨c, ρ, S, me, He, E, w, h⟩ := h
  unfold evE at h
  refine tI_weak (tI_step E (Step.refl c H) w h) ?_
  rintro x H1 ⟨c1, S1, ra, _, s1, w1, x1, h1⟩
  refine tI_weak (tI_step (E.step s1) s1 w1 h1) ?_
  rintro y H2 ⟨c2, S2, rb, _, s2, w2, x2, h2⟩
  split at h2
  · rename_i i he1
    cases x2 with
    | val x2 =>
      cases x2
      refine ⟨i, rfl, tI_weak (tI_step (E.step (s1.trans s2)) (s1.trans s2) w2 h2) ?_⟩
      rintro z H3 ⟨c3, S3, rc, _, s3, w3, x3, h3⟩
      split at h3
      · rename_i j he2
        cases x3 with
        | val x3 =>
          cases x3
          refine ⟨j, rfl, ?_⟩
          cases hv : ra.view S3 with
          | none => simp only [hv] at h3; exact h3.elim
          | some d =>
          cases hs : sliceD d (some i) (some j) with
          | none => simp only [hv, hs] at h3; exact h3.elim
          | some r =>
          simp only [hv, hs] at h3
          have st := (s1.trans s2).trans s3
          exact ⟨c3, S3, d, r, w3, (x1.mono (s2.trans s3)).view w3 hv, hs, fun c4 H4 v4 s4 w4 x4 => h3 c4 H4 v4 (st.trans s4) w4 (x4.back st.dom)⟩
      · exact h3.elim
  · exact h2.elim
theorem rd_slcL {b' : E} (h : tI T C m pin W (.slcL a b') σ H Q) : tSl (rSl2 m) (tI T C m pin W a) tNoPart (tPart (tI T C m pin W b')) σ H Q := by
  obtain ⟨c, ρ, S, me, He, E, w, h⟩ := h
  unfold evE at h
  refine tI_weak (tI_step E (Step.refl c H) w h) ?_
  rintro x H1 ⟨c1, S1, ra, _, s1, w1, x1, h1⟩
  refine tI_weak (tI_step (E.step s1) s1 w1 h1) ?_
  rintro z H3 ⟨c3, S3, rc, _, s3, w3, x3, h3⟩
  split at h3
  · rename_i j he2
    cases x3 with
    | val x3 =>
      cases x3
      refine ⟨j, rfl, ?_⟩
      cases hv : ra.view S3 with
      | none => simp only [hv] at h3; exact h3.elim
      | some d =>
      cases hs : sliceD d none (some j) with
      | none => simp only [hv, hs] at h3; exact h3.elim
      | some r =>
      simp only [hv, hs] at h3
      have st := s1.trans s3
      exact ⟨c3, S3, d, r, w3, (x1.mono s3).view w3 hv, hs, fun c4 H4 v4 s4 w4 x4 => h3 c4 H4 v4 (st.trans s4) w4 (x4.back st.dom)⟩
  · exact h3.elim
theorem rd_slcR {b' : E} (h : tI T C m pin W (.slcR a b') σ H Q) : tSl (rSl2 m) (tI T C m pin W a) (tPart (tI T C m pin W b')) tNoPart σ H Q := by
  obtain ⟨c, ρ, S, me, He, E, w, h⟩ := h
  unfold evE at h
  refine tI_weak (tI_step E (Step.refl c H) w h) ?_
  rintro x H1 ⟨c1, S1, ra, _, s1, w1, x1, h1⟩
  refine tI_weak (tI_step (E.step s1) s1 w1 h1) ?_
  rintro z H3 ⟨c3, S3, rc, _, s3, w3, x3, h3⟩
  split at h3
  · rename_i j he2
    cases x3 with
    | val x3 =>
      cases x3
      refine ⟨j, rfl, ?_⟩
      cases hv : ra.view S3 with
      | none => simp only [hv] at h3; exact h3.elim
      | some d =>
      cases hs : sliceD d (some j) none with
      | none => simp only [hv, hs] at h3; exact h3.elim
      | some r =>
      simp only [hv, hs] at h3
      have st := s1.trans s3
      exact ⟨c3, S3, d, r, w3, (x1.mono s3).view w3 hv, hs, fun c4 H4 v4 s4 w4 x4 => h3 c4 H4 v4 (st.trans s4) w4 (x4.back st.dom)⟩
  · exact h3.elim
theorem rd_blt {b : Nat} (h : tI T C m pin W (.blt b a) σ H Q) : tCB (rBlt m b) (tCons (tI T C m pin W a) tNil) σ H Q := by
  obtain ⟨c, ρ, S, me, He, E, w, h⟩ := h
  unfold evE at h
  refine tA_one E w h fun c1 S1 r v H1 s1 w1 x1 h1 => ?_
  cases hv : r.view S1 with
  | none => simp only [hv] at h1; exact h1.elim
  | some d =>
  simp only [hv] at h1
  have vv := x1.view w1 hv
  cases hb : bltop b d with
  | none => simp only [hb] at h1; exact h1.elim
  | some z =>
  simp only [hb] at h1
  exact ⟨c1, S1, v, d, z, rfl, w1, vv, hb, fun c2 H2 v2 s2 w2 x2 => h1 c2 H2 v2 (s1.trans s2) w2 (x2.back s1.dom)⟩
theorem rd_isi {ty : Nat} {z : String} (hz : tyS ty = some z) (h : tI T C m pin W (.isi ty a) σ H Q) : tCB (rIsiT2 m T ty) (tCons (tI T C m pin W a) (tCons (tC (.ty z)) tNil)) σ H Q := by
  obtain ⟨c, ρ, S, me, He, E, w, h⟩ := h
  unfold evE at h
  refine tI_one E w h fun c1 S1 r v H1 s1 w1 x1 h1 => ?_
  cases hv : r.view S1 with
  | none => simp only [hv] at h1; exact h1.elim
  | some d =>
  simp only [hv] at h1
  cases ht : tyIs ty d with
  | none => simp only [ht] at h1; exact h1.elim
  | some b =>
  simp only [ht] at h1
  split at h1
  · rename_i ok
    exact ⟨c1, S1, v, d, b, z, rfl, w1, x1.view w1 hv, ok, hz, ht, h1 c1 H1 _ s1 w1 (.val (.bl b))⟩
  · exact h1.elim
theorem rd_isiC {c' : Nat} (h : tI T C m pin W (.isiC c' a) σ H Q) : tCB (rIsiC2 m T c') (tCons (tI T C m pin W a) (tCons (tC (.ref (m.cl c'))) tNil)) σ H Q := by
  obtain ⟨c, ρ, S, me, He, E, w, h⟩ := h
  unfold evE at h
  refine tI_one E w h fun c1 S1 r v H1 s1 w1 x1 h1 => ?_
  cases hv : r.view S1 with
  | none => simp only [hv] at h1; exact h1.elim
  | some d =>
  simp only [hv] at h1
  split at h1
  · rename_i ok
    refine ⟨c1, S1, v, d, rfl, w1, x1.view w1 hv, ok, h1 c1 H1 _ s1 w1 (.val ?_)⟩
    cases d <;> exact .bl _
  · exact h1.elim
theorem rd_mk (h : tI T C m pin W (.mk a) σ H Q) : tI T C m pin W a σ H Q := by
  obtain ⟨c, ρ, S, me, He, E, w, h⟩ := h
  unfold evE at h
  refine tI_one E w h fun c1 S1 r v H1 s1 w1 x1 h1 => ?_
  cases r with
  | val _ => exact h1.elim
  | tmp _ => exact h1.elim
  | own o =>
  cases x1 with
  | own r1 g1 n1 f1 =>
  rename_i p
  have hp : c1.A.length = S1.length := w1.len
  have l : Le c1 ⟨c1.G, c1.A ++ [p]⟩ := ⟨fun _ _ h => h, [p], rfl⟩
  refine h1 ⟨c1.G, c1.A ++ [p]⟩ H1 _ ⟨s1.G, ?_, s1.frame, s1.fresh, s1.dom⟩ ⟨w1.le, by simp [hp], fun n a ob h1 h2 => ?_, fun x hx => ?_, ?_⟩ (.val (.obj ?_))
  · obtain ⟨mo, e, f⟩ := s1.A
    refine ⟨mo ++ [p], by rw [← List.append_assoc, ← e], fun x hx => ?_⟩
    rcases List.mem_append.mp hx with hx | hx
    · exact f x hx
    · cases List.mem_singleton.mp hx; exact f1
  · by_cases hn : n < c1.A.length
    · rw [List.getElem?_append_left hn] at h1
      rw [List.getElem?_append_left (by omega)] at h2
      exact (w1.obj n a ob h1 h2).cfg l
    · rw [List.getElem?_append_right (by omega)] at h1
      rw [List.getElem?_append_right (by omega)] at h2
      rw [← hp] at h2
      generalize n - c1.A.length = j at h1 h2
      cases j with
      | succ j => simp at h1
      | zero =>
        simp at h1 h2
        subst h1 h2
        exact r1.cfg l
  · rcases List.mem_append.mp hx with hx | hx
    · exact w1.off x hx
    · cases List.mem_singleton.mp hx; exact g1
  · refine List.nodup_append.mpr ⟨w1.nd, by simp, fun x hx y hy e => ?_⟩
    rw [List.mem_singleton] at hy
    subst hy
    exact n1 (e ▸ hx)
  · rw [List.getElem?_append_right (by omega), hp]
    simp
end
end R

set_option maxHeartbeats 4000000
/-! Soundness of the expressions: by the check. -/
namespace R
open PySem L2
section
variable {T : Tab} {C : Calls} {m : Pm} {pin : Pin} {W : WX} {σ : St} {H : Hp} {Q : VK} {a b e : E} {es : Es}
theorem rd_chain {op op' : Cop} {c' : E} (h : tI T C m pin W (.chain op op' a b c') σ H Q) : tChain (rCmp m op) (rCmp m op') (tI T C m pin W a) (tI T C m pin W b) (tI T C m pin W c') σ H Q := by
  obtain ⟨c, ρ, S, me, He, E, w, h⟩ := h
  unfold evE at h
  refine tI_weak (tI_step E (Step.refl c H) w h) ?_
  rintro x H1 ⟨c1, S1, ra, _, s1, w1, x1, h1⟩
  refine tI_weak (tI_step (E.step s1) s1 w1 h1) ?_
  rintro y H2 ⟨c2, S2, rb, _, s2, w2, x2, h2⟩
  cases ra with
  | own _ => exact h2.elim
  | tmp _ => exact h2.elim
  | val da =>
  cases rb with
  | own _ => cases da <;> exact h2.elim
  | tmp _ => cases da <;> exact h2.elim
  | val db =>
  cases da with
  | int i =>
    cases db with
    | int j =>
      simp only at h2
      cases hr : cmpop op (.int i) (.int j) with
      | none => simp only [hr] at h2; exact h2.elim
      | some k =>
      simp only [hr] at h2
      cases x1 with
      | val x1 =>
      cases x2 with
      | val x2 =>
      have y1 := x1.le s2.le
      refine ⟨c2, S2, _, _, k, w2, .val y1, .val x2, hr, k, rfl, ?_⟩
      cases k with
      | false => exact iteF (h2 c2 H2 _ (s1.trans s2) w2 (.val (.bl _)))
      | true =>
        refine iteT ?_
        refine tI_weak (tI_step ((E.step s1).step s2) (s1.trans s2) w2 h2) ?_
        rintro z H3 ⟨c3, S3, rc, _, s3, w3, x3, h3⟩
        cases rc with
        | own _ => exact h3.elim
        | tmp _ => exact h3.elim
        | val dc =>
        cases dc with
        | int l =>
          simp only at h3
          cases hr2 : cmpop op' (.int j) (.int l) with
          | none => simp only [hr2] at h3; exact h3.elim
          | some k2 =>
          simp only [hr2] at h3
          cases x3 with
          | val x3 => exact ⟨c3, S3, _, _, k2, w3, .val (x2.le s3.le), .val x3, hr2, h3 c3 H3 _ ((s1.trans s2).trans s3) w3 (.val (.bl _))⟩
        | _ => exact h3.elim
    | _ => exact h2.elim
  | _ => cases db <;> exact h2.elim
end
/-! ### what is promised -/
structure Snd (X : Cx) (m : Pm) (T : Tab) (C : Calls) (pin : Pin) (W : WX) (e : E) (x : Expr) : Prop where
  pe : PE X x (tI T C m pin W e)
  pt : noIf x = true → PT X x (tT T C m pin W e)
  pw : ∀ op vs p, x = .BoolOp op vs p → PW X x (tT T C m pin W e)
theorem Snd.plain {X : Cx} {m : Pm} {T : Tab} {C : Calls} {pin : Pin} {W : WX} {e : E} {x : Expr} {t : TE} (hp : plainT x = true) (h : PE X x t) (rd : ∀ σ H Q, tI T C m pin W e σ H Q → t σ H Q) : Snd X m T C pin W e x := by
  have h1 := PE.imp h rd
  exact ⟨h1, fun _ => pt_val h1 fun whole => isTrue_plainT hp, fun op vs p e => by subst e; cases hp⟩
theorem Snd.ofCmp {X : Cx} {m : Pm} {T : Tab} {C : Calls} {pin : Pin} {W : WX} {e : E} {l : Expr} {ops : List CmpOp} {rs : List Expr} {p : Pos} {t : TE} {t' : TT} (h : PE X (.Compare l ops rs p) t) (h' : PT X (.Compare l ops rs p) t') (ht : t' = tTest t) (rd : ∀ σ H Q, tI T C m pin W e σ H Q → t σ H Q) : Snd X m T C pin W e (.Compare l ops rs p) := by
  subst ht
  exact ⟨PE.imp h rd, fun _ => PT.imp h' fun σ H Q q => rd σ H _ q, fun op vs p e => by cases e⟩
section
variable {X : Cx} {tb : Tb} {n : Nm} {T : Tab} {C : Calls} {k : Nat} {W : WX} {N : List Str} {sc : Scope} {pin : Pin} {hot : Bool} {x : Str}
theorem CtxE.free (cx : CtxE X k W N sc pin hot) (F : Facts (mX X tb) X.mg X.base n T C k) (h1 : x ∈ n.free) (h2 : glB sc x = true) : Gl X x ∧ X.mg x = none := ⟨cx.gl h2, F.free x h1⟩
theorem lookup_relS_free {sc : Scope} : ∀ {names : List (Str × NameKind)} {x : Str}, names.lookup x = some .free →
    (names.map fun (n, k) => if (k == NameKind.free && sc.kind == .function && sc.names.lookup n == some .cell) then (n, NameKind.cell) else (n, k)).lookup x = some .free ∨
    (names.map fun (n, k) => if (k == NameKind.free && sc.kind == .function && sc.names.lookup n == some .cell) then (n, NameKind.cell) else (n, k)).lookup x = some .cell
  | [], _, h => by simp at h
  | (n, k₀) :: r, x, h => by
    have ih := @lookup_relS_free sc r x
    show List.lookup x ((if (k₀ == NameKind.free && sc.kind == .function && sc.names.lookup n == some .cell) = true then (n, NameKind.cell) else (n, k₀)) :: (r.map _)) = some .free ∨ List.lookup x ((if (k₀ == NameKind.free && sc.kind == .function && sc.names.lookup n == some .cell) = true then (n, NameKind.cell) else (n, k₀)) :: (r.map _)) = some .cell
    cases hx : x == n with
    | true =>
      simp only [List.lookup_cons, hx] at h
      cases h
      split <;> simp [List.lookup_cons, hx]
    | false =>
      simp only [List.lookup_cons, hx] at h
      split <;> (simp only [List.lookup_cons, hx]; exact ih h)
/-- inside a comprehension -/
theorem CtxE.blk (cx : CtxE X k W N sc pin false) {scope : Scope} (s : Shared) (H : Hp) (A : Addr) (cl : List (Str × Addr)) (fp : List Addr) : CtxE (X.blk s H scope (compEnvC scope cl A X.env) fp) k noW N scope noPin false := by
  obtain ⟨h1, h2, h3⟩ := cx.cool rfl
  refine ⟨cx.hN, cx.nd, takes0, fun x kd h => ?_, cx.un, fun _ => ⟨h1, h2, rfl⟩, fun _ _ _ h => h.elim, fun x h => ?_⟩
  · cases kd with
    | free =>
      rcases lookup_relS_free (sc := X.env.scope) h with h | h
      · exact .inl h
      · exact .inr ⟨rfl, h⟩
    | _ => exact .inl (lookup_relS_keep (by decide) h)
  · rcases h with h | h
    · exact .inr (lookup_relS_keep (by decide) h)
    · refine .inl ?_
      show (scope.names.lookup x == some .cell) = true
      rw [h]
      decide
/-- isinstance(e, c), e a caught exception -/
def rIsE2 (m : Pm) (T : Tab) (pin : Pin) : List V → Hp → VK → Prop := fun xs H Q => ∃ (a : Addr) (k cc : Nat) (b : Bool), xs = [.ref a, .ref (m.cl cc)] ∧ pin a (.ref (m.cl k)) none ∧ T.sub k cc = some b ∧ Q (.bl b) H
theorem call_isE2 (F : Facts (mX X tb) X.mg X.base n T C k) (cx : CtxE X k W N sc pin hot) : CallR X (.builtin "isinstance") (rIsE2 (mX X tb) T pin) := by
  intro pins s σ H xs us Q I r h
  obtain ⟨a, k', cc, b, rfl, hp, hs, q⟩ := h
  obtain ⟨u1, u2, rfl, r1, r2⟩ := vals2 r
  cases (show u1 = Value.ref a from r1)
  cases (show u2 = Value.ref (tb.cl cc) from r2)
  obtain ⟨oe, hm, hz, vs, hv⟩ := cx.pn _ _ _ hp
  obtain ⟨hget, _⟩ := I.pin (a, oe) (List.mem_append.mpr (.inl hm))
  obtain ⟨EC, e, _⟩ := F.exc k' cc b hs
  have J : PySem.W.InstAt s.heap a oe (tb.cl k') none := by
    obtain ⟨oc, od, oda, osl⟩ := oe
    obtain ⟨h1, h2⟩ := hz
    dsimp only at h1 h2 hv
    subst h1 h2 hv
    exact ⟨hget, rfl, rfl, trivial⟩
  exact PySem.W.kia_one (PySem.W.handS_kitx_exc EC.hg EC.hk EC.hs EC.hd EC.ha EC.hn EC.ht EC.hm) I.kIn J e (fun z => nomatch z) fun tk => ⟨.bl b, H, I.kept (t' := tk) fun _ _ z => z, rfl, q⟩
theorem rd_excIs {m : Pm} {i c : Nat} {σ : St} {H : Hp} {Q : VK} (h : tI T C m pin W (.excIs i c) σ H Q) : tCB (rIsE2 m T pin) (tCons (tVar i) (tCons (tC (.ref (m.cl c))) tNil)) σ H Q := by
  obtain ⟨c0, ρ, S, me, He, E, w, h⟩ := h
  unfold evE at h
  cases q : ρ[i]? with
  | none => rw [q] at h; exact h.elim
  | some s =>
    rw [q] at h
    have hs := E.at_ i s q
    cases s with
    | exc k ds =>
      cases ds with
      | cons _ _ => exact h.elim
      | nil =>
      simp only at h
      cases hb : T.sub k c with
      | none => simp only [hb] at h; exact h.elim
      | some b =>
      simp only [hb] at h
      cases hs' : σ[i]? with
      | none => rw [hs'] at hs; cases hs
      | some o =>
        rw [hs'] at hs
        cases hs with
        | exc hp hx =>
        rename_i a cls d
        obtain ⟨rfl, hx⟩ := hx
        refine ⟨_, hs', a, k, c, b, rfl, ?_, hb, h c0 H _ (Step.refl c0 H) w (.val (.bl b))⟩
        rcases hx with ⟨_, _, rfl⟩ | ⟨dx, vs, z, _, _, hl, r⟩
        · exact hp
        · cases r
          exact absurd (List.length_eq_zero_iff.mp hl.symm) z
    | _ => exact h.elim
theorem CtxE.so (cx : CtxE X k W N sc pin hot) : StoOk X sc := by
  intro x h
  refine ⟨?_, cx.sto x h⟩
  rcases h with h | h
  · rcases cx.sees _ _ h with h | ⟨h, _⟩
    · exact .inl h
    · cases h
  · rcases cx.sees _ _ h with h | ⟨h, _⟩
    · exact .inr h
    · cases h
theorem CtxE.blkOk (cx : CtxE X k W N sc pin hot) {scope : Scope} {own : List (Str × Nat)} (h : blkC N sc scope own = true) : BlkOk X.N X.env.scope scope own := by
  have b := blkOk_by h
  rw [cx.hN]
  refine ⟨b.kind, b.uniq, b.ix, fun y hy e => ?_, b.own⟩
  rcases b.free y hy e with h | h
  · rcases cx.sees _ _ h with h | ⟨h, _⟩
    · exact .inl h
    · cases h
  · rcases cx.sees _ _ h with h | ⟨_, h⟩
    · exact .inr h
    · exact .inl h
theorem ownP_snd (N : List Str) (is : List Nat) : (ownP N is).map (·.2) = is := by
  unfold ownP
  rw [List.map_map]
  exact List.map_id is
theorem kdB_of {f : Nat} {p : Kd → Bool} (h : kdB n f p = true) : ∃ kd, n.kd f = some kd ∧ p kd = true := by
  unfold kdB at h
  split at h
  · rename_i kd e; exact ⟨kd, e, h⟩
  · cases h
end
end R

set_option maxHeartbeats 1000000
/-! sorted(..) of a list, of a dict; max, min of two numbers. -/
namespace R
open PySem L2 PySem.W PyProof.Rows
section
variable {prog : Program} {w : World} {A : Around} {E : Value → Shared → Prop} {s : Shared}
/-- a dict's keys, its very object known -/
theorem kdl_obj {d : Addr} {o : Obj} {es : Array DictEntry} {ep : Nat} (lo : (d == sysModules) = false) (hc : o.ExactDict) (hd : o.data = .dict es ep) :
    KdlSrc prog w "dict" d d es.size (fun i v => ∃ en, es[i]? = some en ∧ v = en.key) (fun h => h.get? d = some o) where
  type := fun s hm => ⟨o, hm, hc.1⟩
  there := fun _ hm => ⟨Heap.lt_size hm, Heap.lt_size hm⟩
  keep := fun _ _ hm hk => hk d (.inl rfl) o hm
  notList := by decide
  notTuple := by decide
  hint := fun _ _ _ _ hm hq => kdl_hint_dict ⟨o, hm, hc.1⟩ hq
  iter := fun A s hh hm => ⟨_, fun i h => h.IsKeyIter s.heap.objs.size d i es.size ep ∧ h.get? d = some o, (fun _ _ hq => iter_keys lo hm hc hd hq),
    { sub := fun b hb => by simp at hb; simp [hb]
      frame := fun _ _ _ st hk => ⟨st.1.at fun o e => hk s.heap.objs.size (by simp) o e, hk d (by simp) o st.2⟩
      item := fun i s' Q E hi st hQ => by
        obtain ⟨en, hen⟩ : ∃ en, es[i]? = some en := ⟨es[i], by simp [hi]⟩
        refine next_key_item st.1 st.2 hd rfl hen fun h' hit' hs' => ?_
        exact hQ en.key h' s'.toks ⟨en, hen, rfl⟩ ⟨hit', hs'.extBut d o (Nat.ne_of_lt (Heap.lt_size hm)) st.2⟩ fun b ob hb e => hs'.extBut b ob (fun h => hb (by simp [h])) e
      done := fun s' Q E st hQ => next_key_end hh st.1 st.2 hd rfl (Nat.le_refl _) fun h' he' => hQ h' s'.toks fun b ob hb e => he' b ob (fun h => hb (by simp [h])) e
      self := fun _ _ _ _ st hQ => wpAny_pyIter_keyiter st.1 hQ },
    ⟨⟨_, Heap.get?_push_size _ rfl, rfl, rfl⟩, Heap.get?_push_of_some _ hm⟩⟩
theorem sorted_src {T : String} {r d : Addr} {n : Nat} {P : Nat → Value → Prop} {OK : Heap → Prop} {β : Type} {R : Value → β → Prop} {enc : β → PyData} {bs : List β} {Q : Value → Shared → Prop}
    (K : KdlSrc prog w T r d n P OK) (hh : A.handled = none) (hok : OK s.heap) (hn : n ≤ sizeLine) (hb : bs.length = n)
    (he : ∀ vs : List Value, vs.length = n → (∀ j v, vs[j]? = some v → P j v) → EachIs R vs bs)
    (her : ∀ (h' : Heap) (vs : List Value), (∀ b o, s.heap.get? b = some o → h'.get? b = some o) → EachIs R vs bs → EachIs (fun v b => ∃ as, Reads h' v (enc b) as ∧ ∀ a ∈ as, ∃ o, s.heap.get? a = some o) vs bs)
    (hal : AllAlike (bs.map enc)) (hk : Sortable (bs.map enc)) (hu : ∀ b, b ∈ bs → A.units + 2 + (enc b).depth < cLine)
    (h : ∀ (p : Addr) (h' : Heap) (tk : Nat) (out : Array Value) (c : Nat), (∀ b o, s.heap.get? b = some o → h'.get? b = some o) → s.heap.get? p = none → h'.get? p = some (seqObj "list" out c) → EachIs R out.toList (bs.mergeSort (dataLe false enc)) → Q (.ref p) { s with heap := h', toks := tk }) :
    wpAny (model prog w) A (call (.builtin "sorted") [.ref r]) Q E s := by
  refine Calls.call_function_entry kind_sorted plain_sorted entry_sorted (args_sorted1 _) ?_
  unfold Builtin.«sorted»
  refine wpAny_bind (m := checkCount "sorted" 1 1 _) (wpAny_pure ?_)
  refine wpAny_bind (kdu_collect (A := A.in1) K hh hok hn fun h' tk acc hkp hacc => ?_)
  have hl : acc.toList.length = n := by rw [Array.length_toList]; exact hacc.1
  refine wpAny_bind (wpAny_newList ?_ (by rw [hl]; exact hn))
  have hsz : s.heap.get? h'.objs.size = none := by
    cases e : s.heap.get? h'.objs.size with
    | none => rfl
    | some o => exact absurd (Heap.lt_size (hkp _ _ e)) (Nat.lt_irrefl _)
  have hg : (h'.push (seqObj "list" acc.toList.toArray 0)).get? h'.objs.size = some (seqObj "list" acc.toList.toArray 0) := Heap.get?_push_size _ rfl
  have kp : ∀ b o, s.heap.get? b = some o → (h'.push (seqObj "list" acc.toList.toArray 0)).get? b = some o := fun b o e => Heap.get?_push_of_some _ (hkp b o e)
  have e := he acc.toList hl (fun j v e => hacc.2 j v (by rw [← Array.getElem?_toList]; exact e))
  refine wpAny_bind (wpAny_holding (wpAny_mono (list_sort_data (A := A.in1) (s := { s with heap := h'.push (seqObj "list" acc.toList.toArray 0), toks := tk }) (enc := enc) (R := R) (Q := fun _ s' => Q (.ref h'.objs.size) s') hg e ((her _ _ kp e).mono fun v b ⟨as, r, q⟩ => ⟨as, r, fun hm => by obtain ⟨o, e⟩ := q _ hm; rw [hsz] at e; cases e⟩) hal hk (by rw [hb]; exact hn) (fun b hb => by have := hu b hb; show A.units + 1 + 1 + _ < _; omega) fun out ho eo => ?_) (fun _ s' x => ?_) fun _ _ e => e))
  · obtain ⟨c, hc⟩ := sortedHeap_at (vs := acc.toList) (out := out.toArray) hg
    refine h _ _ tk out.toArray c (fun b u e => ?_) hsz hc eo
    have hlt := Heap.lt_size (hkp b u e)
    show (sortedHeap (h'.push (seqObj "list" acc.toList.toArray 0)) h'.objs.size acc.toList out.toArray).get? b = some u
    rw [sortedHeap_old (Nat.ne_of_lt hlt) (by rw [size_push']; exact Nat.lt_succ_of_lt hlt)]
    exact kp b u e
  · exact wpAny_pure ⟨_, rfl, x⟩
end
end R
namespace R
open PySem L2 PySem.W PyProof.Rows
section
variable {α β : Type} {le : α → α → Bool}
theorem insLe_at {a : α} : ∀ {l₁ l₂ : List α}, (∀ b ∈ l₁, le a b = false) → (∀ b ∈ l₂, le a b = true) → insLe le a (l₁ ++ l₂) = l₁ ++ a :: l₂
  | [], [], _, _ => rfl
  | [], y :: ys, _, h2 => by
    show (if le a y = true then a :: y :: ys else y :: insLe le a ys) = _
    rw [if_pos (h2 y List.mem_cons_self)]
    rfl
  | x :: l₁, l₂, h1, h2 => by
    show (if le a x = true then a :: x :: (l₁ ++ l₂) else x :: insLe le a (l₁ ++ l₂)) = _
    rw [if_neg (by rw [h1 x List.mem_cons_self]; decide), insLe_at (fun b hb => h1 b (List.mem_cons_of_mem _ hb)) h2]
    rfl
theorem isort_eq (h : TotalLe le) : ∀ l : List α, isort le l = l.mergeSort le
  | [] => by rw [List.mergeSort_nil]; rfl
  | a :: l => by
    have ht : ∀ a b, (le a b || le b a) = true := fun a b => by
      rcases h.total a b with e | e <;> rw [e] <;> simp
    obtain ⟨l₁, l₂, e1, e2, e3⟩ := List.mergeSort_cons h.trans ht a l
    have hp := List.pairwise_mergeSort h.trans ht (a :: l)
    rw [e1, List.pairwise_append] at hp
    show insLe le a (isort le l) = _
    rw [isort_eq h l, e2, e1]
    refine insLe_at (fun b hb => by simpa using e3 b hb) fun b hb => ?_
    exact (List.pairwise_cons.mp hp.2.1).1 b hb
theorem mem_insLe {a x : α} : ∀ {l : List α}, x ∈ insLe le a l → x = a ∨ x ∈ l
  | [], h => .inl (List.mem_singleton.mp h)
  | y :: ys, h => by
    unfold insLe at h
    split at h
    · rcases List.mem_cons.mp h with h | h
      · exact .inl h
      · exact .inr h
    · rcases List.mem_cons.mp h with h | h
      · exact .inr (by rw [h]; exact List.mem_cons_self)
      · exact (mem_insLe h).imp id (List.mem_cons_of_mem _)
theorem mem_isort {x : α} : ∀ {l : List α}, x ∈ isort le l → x ∈ l
  | [], h => h
  | y :: ys, h => by
    rcases mem_insLe h with h | h
    · rw [h]; exact List.mem_cons_self
    · exact List.mem_cons_of_mem _ (mem_isort h)
theorem insLe_map {le' : β → β → Bool} {f : α → β} {a : α} : ∀ {l : List α}, (∀ b ∈ l, le a b = le' (f a) (f b)) → (insLe le a l).map f = insLe le' (f a) (l.map f)
  | [], _ => rfl
  | y :: ys, h => by
    show (if le a y = true then a :: y :: ys else y :: insLe le a ys).map f = if le' (f a) (f y) = true then f a :: f y :: ys.map f else f y :: insLe le' (f a) (ys.map f)
    rw [h y List.mem_cons_self]
    split
    · rfl
    · rw [List.map_cons, insLe_map fun b hb => h b (List.mem_cons_of_mem _ hb)]
theorem isort_map {le' : β → β → Bool} {f : α → β} : ∀ {l : List α}, (∀ a ∈ l, ∀ b ∈ l, le a b = le' (f a) (f b)) → (isort le l).map f = isort le' (l.map f)
  | [], _ => rfl
  | a :: l, h => by
    show (insLe le a (isort le l)).map f = insLe le' (f a) (isort le' (l.map f))
    rw [insLe_map (le' := le') fun b hb => h a List.mem_cons_self b (List.mem_cons_of_mem _ (mem_isort hb)), isort_map fun b hb c hc => h b (List.mem_cons_of_mem _ hb) c (List.mem_cons_of_mem _ hc)]
end
/-! three lists side by side -/
abbrev Tri := V × D × PyData
section
variable {m : Pm} {c : Cfg}
abbrev TriR (m : Pm) (c : Cfg) : Value → Tri → Prop := fun v b => RelV b.1 v ∧ RD m c b.1 b.2.1
theorem tri_each : ∀ {ws : List V} {ds : List D} {ps : List PyData} {its : List Value}, Vals ws its → RDs m c ws ds → pyAll ds = some ps →
    EachIs (TriR m c) its (ws.zip (ds.zip ps)) ∧ (ws.zip (ds.zip ps)).map (·.2.2) = ps ∧ (ws.zip (ds.zip ps)).map (·.2.1) = ds ∧ (∀ b ∈ ws.zip (ds.zip ps), py b.2.1 = some b.2.2) ∧ (ws.zip (ds.zip ps)).length = ds.length
  | _, [], ps, its, rv, hr, hp => by
    cases hr
    cases rv
    cases hp
    exact ⟨.nil, rfl, rfl, (fun b hb => nomatch hb), rfl⟩
  | _, d :: ds, ps, its, rv, hr, hp => by
    cases hr with
    | cons h1 h2 =>
    cases rv with
    | cons r1 r2 =>
    unfold pyAll at hp
    split at hp
    · rename_i a as e1 e2
      cases hp
      obtain ⟨i1, i2, i3, i4, i5⟩ := tri_each r2 h2 e2
      refine ⟨.cons ⟨r1, h1⟩ i1, ?_, ?_, fun b hb => ?_, ?_⟩
      · simp only [List.zip_cons_cons, List.map_cons, i2]
      · simp only [List.zip_cons_cons, List.map_cons, i3]
      · simp only [List.zip_cons_cons, List.mem_cons] at hb
        rcases hb with rfl | hb
        · exact e1
        · exact i4 b hb
      · simp only [List.zip_cons_cons, List.length_cons, i5]
    · cases hp
theorem tri_back : ∀ {bs : List Tri} {out : List Value}, EachIs (TriR m c) out bs → Vals (bs.map (·.1)) out ∧ RDs m c (bs.map (·.1)) (bs.map (·.2.1))
  | [], _, h => by cases h; exact ⟨.nil, .nil⟩
  | b :: bs, _, h => by
    cases h with
    | cons h1 h2 =>
      obtain ⟨i1, i2⟩ := tri_back h2
      exact ⟨.cons h1.1 i1, .cons h1.2 i2⟩
theorem tri_reads {h : Heap} : ∀ {ws : List V} {ds : List D} {ps : List PyData} {its : List Value} {as : List Addr}, ws.length = its.length → ds.length = its.length → ReadsAll h its ps as → EachIs (fun v (b : Tri) => ∃ bs, Reads h v b.2.2 bs ∧ ∀ a ∈ bs, a ∈ as) its (ws.zip (ds.zip ps))
  | ws, ds, _, _, _, h1, h2, .nil => by
    cases ws with
    | nil => exact .nil
    | cons _ _ => cases h1
  | ws, ds, _, _, _, h1, h2, .cons r1 r2 => by
    cases ws with
    | nil => cases h1
    | cons w ws =>
      cases ds with
      | nil => cases h2
      | cons d ds =>
        refine .cons ⟨_, r1, fun a ha => List.mem_append_left _ ha⟩ ((tri_reads (by simpa using h1) (by simpa using h2) r2).mono fun v b ⟨bs, q, z⟩ => ⟨bs, q, fun a ha => List.mem_append_right _ (z a ha)⟩)
end
theorem depth_mem : ∀ {ps : List PyData} {d : PyData}, d ∈ ps → d.depth ≤ PyData.depthAll ps
  | [], _, h => nomatch h
  | p :: ps, d, h => by
    unfold PyData.depthAll
    rcases List.mem_cons.mp h with rfl | h
    · omega
    · have := depth_mem h
      omega
theorem sortable_of {ps : List PyData} (h : sortableB ps = true) : Sortable ps := by
  unfold sortableB at h
  rcases Bool.or_eq_true_iff.mp h with h | h
  · refine .inl fun d hd => ?_
    have := List.all_eq_true.mp h d hd
    split at this
    · exact ⟨_, _, rfl⟩
    · cases this
  · refine .inr fun d hd => ?_
    have := List.all_eq_true.mp h d hd
    split at this
    · cases this
    · cases this
    · rename_i n1 n2
      exact ⟨n1, fun xs e => n2 xs e⟩
theorem sort_tri {bs : List Tri} {rev : Bool} (h : ∀ b ∈ bs, py b.2.1 = some b.2.2) : (bs.mergeSort (dataLe rev fun b => b.2.2)).map (·.2.1) = isort (leB rev) (bs.map (·.2.1)) := by
  have ht : TotalLe (dataLe rev fun b : Tri => b.2.2) := sortLe_total _ rev _
  rw [← isort_eq ht]
  refine isort_map fun a ha b hb => ?_
  rw [dataLe_eq]
  unfold leB ltB
  rw [h a ha, h b hb]
  cases rev <;> rfl
theorem sort_len {α : Type} {le : α → α → Bool} (l : List α) : (isort le l).length = l.length := by
  induction l with
  | nil => rfl
  | cons a l ih =>
    have : ∀ (a : α) (l : List α), (insLe le a l).length = l.length + 1 := fun a l => by
      induction l with
      | nil => rfl
      | cons y ys ih =>
        unfold insLe
        split
        · rfl
        · rw [List.length_cons, ih]; rfl
    show (insLe le a (isort le l)).length = _
    rw [this, ih]
    rfl
section
variable {X : Cx} {tb : Tb}
theorem sortL_of {rev : Bool} {ds l : List D} (h : sortL rev ds = some l) : ∃ ps, pyAll ds = some ps ∧ AllAlike ps ∧ PyData.depthAll ps ≤ 50 ∧ Sortable ps ∧ ds.length ≤ lim ∧ l = isort (leB rev) ds := by
  unfold sortL at h
  split at h
  · rename_i ps hps
    split at h
    · rename_i hc
      cases h
      simp only [Bool.and_eq_true, decide_eq_true_eq] at hc
      have := alike_of hc.1.1
      exact ⟨ps, hps, this.1.1, this.2, sortable_of hc.1.2, hc.2, rfl⟩
    · cases h
  · cases h
theorem call_blt6 (hu : X.A.units + 64 < cLine) : CallR X (.builtin "sorted") (rBlt (mX X tb) 6) := by
  intro pins s σ H vs us Q I r h
  obtain ⟨c, S, x, d, z, rfl, w, hx, hb, q⟩ := h
  cases d with
  | lst ds =>
    obtain ⟨l, hs, rfl⟩ := Option.map_eq_some_iff.mp (show (sortL false ds).map (fun l => Rv.own (.lst l)) = some z from hb)
    obtain ⟨ps, hps, hal, hdp, hk, hl, rfl⟩ := sortL_of hs
    obtain ⟨p, ws, rfl, hp, hr⟩ := hx.lst w
    obtain ⟨u, rfl, ru⟩ := vals1 r
    cases ru
    obtain ⟨its, rv, pl, hz⟩ := I.list (SqL.of hp)
    obtain ⟨as, hra⟩ := Dp.readsAll I ps ws its (RDs.dp w _ ws ps hr hps) rv
    obtain ⟨e1, e2, e3, e4, e5⟩ := tri_each rv hr hps
    have lw : ws.length = its.length := by
      have : ∀ {a : List V} {b : List Value}, Vals a b → a.length = b.length := fun h => by
        induction h with
        | nil => rfl
        | cons _ _ ih => rw [List.length_cons, List.length_cons, ih]
      exact this rv
    have ld : ds.length = its.length := by rw [← lw, hr.length]
    have er := tri_reads lw ld hra
    refine sorted_data (R := TriR (mX X tb) c) (enc := fun b : Tri => b.2.2) (bs := ws.zip (ds.zip ps)) (vs := its) pl.isList e1 (er.mono fun v b ⟨bs, q, _⟩ => ⟨bs, q⟩) (by rw [e2]; exact hal) (by rw [e2]; exact hk) (by rw [e5]; exact lim_size hl) (fun b hb => ?_) fun out ho eo => ?_
    · have : b.2.2 ∈ ps := by rw [← e2]; exact List.mem_map.mpr ⟨b, hb, rfl⟩
      have := depth_mem this
      omega
    · obtain ⟨v1, v2⟩ := tri_back eo
      rw [sort_tri e4, e3] at v2
      obtain ⟨cc, hc⟩ := sortedAll_at s.heap its out.toArray
      have hp0 : H (s.heap.objs.size + 1) = none := I.hok.fresh (Nat.le_succ _)
      have hlen : (((ws.zip (ds.zip ps)).mergeSort (dataLe false fun b : Tri => b.2.2)).map (·.1)).length ≤ sizeLine := by
        rw [v2.length, sort_len]
        exact lim_size hl
      have J := I.laid (t' := s.toks) (a := s.heap.objs.size + 1) (o := .lst (((ws.zip (ds.zip ps)).mergeSort (dataLe false fun b : Tri => b.2.2)).map (·.1))) (h' := sortedAll s.heap its out.toArray) (fun b u e => sortedAll_old e) (Nat.le_succ _) ⟨hlen, out, cc, v1, hc⟩
      exact ⟨.ref (s.heap.objs.size + 1), _, J, rfl, k_newL q w v2 hp0⟩
  | _ => cases hb
end
end R
namespace R
open PySem L2 PySem.W PyProof.Rows
theorem paired_l {α β : Type} {F : α → β → Prop} : ∀ {l : List α} {l' : List β}, Paired F l l' → l.length = l'.length
  | _, _, .nil => rfl
  | _, _, .cons _ h => by rw [List.length_cons, List.length_cons, paired_l h]
theorem keys_vals {xs : List (NestedKey × Addr × Value)} : ∀ {es : List DEnt}, Paired (fun (e : DEnt) (x : NestedKey × Addr × Value) => e.1 = x.1 ∧ e.2.1 = x.2.1 ∧ RelV e.2.2 x.2.2) es xs → Vals (es.map fun e => V.ref e.2.1) (xs.map fun x => Value.ref x.2.1) := by
  intro es h
  induction h with
  | nil => exact .nil
  | cons h1 _ ih => exact .cons (by show RelV (V.ref _) (Value.ref _); rw [h1.2.1]; rfl) ih
theorem RKs.keys {m : Pm} {c : Cfg} : ∀ {es : List DEnt} {kvs : List (R.D × R.D)}, RKs m c es kvs → RDs m c (es.map fun e => V.ref e.2.1) (kvs.map (·.1))
  | _, _, .nil => .nil
  | _, _, .cons _ h1 _ h2 => .cons h1 h2.keys
section
variable {X : Cx} {tb : Tb}
theorem call_blt7 (hc : X.calm = true) (hu : X.A.units + 64 < cLine) : CallR X (.builtin "sorted") (rBlt (mX X tb) 7) := by
  intro pins s σ H vs us Q I r h
  obtain ⟨c, S, x, d, z, rfl, w, hx, hb, q⟩ := h
  cases d with
  | dct kvs =>
    obtain ⟨l, hs, rfl⟩ := Option.map_eq_some_iff.mp (show (sortL false (kvs.map (·.1))).map (fun l => Rv.own (.lst l)) = some z from hb)
    obtain ⟨ps, hps, hal, hdp, hk, hl, rfl⟩ := sortL_of hs
    obtain ⟨p, es, rfl, hp, hr⟩ := hx.dct w
    obtain ⟨u, rfl, ru⟩ := vals1 r
    cases ru
    obtain ⟨⟨hz, hs, xs, hpd, eds, ep, h1, h2, h3, h4, h5⟩, _⟩ := I.hok p _ hp
    have hsz : eds.size = es.1.length := by
      have := congrArg List.length h4
      rw [List.length_map, ← paired_l hpd] at this
      simpa using this
    have rv := keys_vals hpd
    have hr' := hr.keys
    have hkl : es.1.length = kvs.length := by
      have := hr'.length
      rwa [List.length_map, List.length_map] at this
    obtain ⟨as, hra⟩ := Dp.readsAll I ps _ _ (RDs.dp w _ _ ps hr' hps) rv
    obtain ⟨e1, e2, e3, e4, e5⟩ := tri_each rv hr' hps
    have er := tri_reads (ws := es.1.map fun e => V.ref e.2.1) (ds := kvs.map (·.1)) (by rw [List.length_map, List.length_map, paired_l hpd]) (by rw [List.length_map, List.length_map, ← hkl, paired_l hpd]) hra
    refine sorted_src (s := s) (R := TriR (mX X tb) c) (enc := fun b : Tri => b.2.2) (bs := (es.1.map fun e => V.ref e.2.1).zip ((kvs.map (·.1)).zip ps)) (kdl_obj hs h2 h3) (I.ok.hd hc) h1 (by rw [hsz]; exact hz) (by rw [e5, List.length_map, hsz, hkl]) (fun vs hl hv => ?_) (fun h' vs kp ev => ?_) (by rw [e2]; exact hal) (by rw [e2]; exact hk) (fun b hb => ?_) fun pn h' tk out cc kp hpn hg eo => ?_
    · have : vs = xs.map fun x => Value.ref x.2.1 := by
        apply List.ext_getElem?
        intro j
        cases hj : vs[j]? with
        | none =>
          rw [List.getElem?_map]
          cases hx : xs[j]? with
          | none => rfl
          | some x =>
            have a1 := (List.getElem?_eq_some_iff.mp hx).1
            have a2 := List.getElem?_eq_none_iff.mp hj
            rw [← paired_l hpd] at a1
            omega
        | some v =>
          obtain ⟨en, hen, rfl⟩ := hv j v hj
          have : eds.toList[j]? = some en := by simpa using hen
          rw [h4, List.getElem?_map] at this
          obtain ⟨x, hx, rfl⟩ := Option.map_eq_some_iff.mp this
          rw [List.getElem?_map, hx]
          rfl
      rw [this]
      exact e1
    · have : vs = xs.map fun x => Value.ref x.2.1 := by
        have lv : vs.length = xs.length := by
          have : ∀ {a : List Value} {b : List Tri}, EachIs (TriR (mX X tb) c) a b → a.length = b.length := fun h => by
            induction h with
            | nil => rfl
            | cons _ _ ih => rw [List.length_cons, List.length_cons, ih]
          rw [this ev, e5, List.length_map, ← hkl, paired_l hpd]
        have key : ∀ {a : List Value} {b : List Tri} {a' : List Value}, EachIs (TriR (mX X tb) c) a b → EachIs (TriR (mX X tb) c) a' b → (∀ t ∈ b, ∃ q, t.1 = V.ref q) → a = a' := fun {a b a'} h1 => by
          induction h1 generalizing a' with
          | nil => intro h2 _; cases h2; rfl
          | cons r1 _ ih =>
            intro h2 hq
            cases h2 with
            | cons r2 h2 =>
              obtain ⟨q, e⟩ := hq _ List.mem_cons_self
              rw [ih h2 fun t ht => hq t (List.mem_cons_of_mem _ ht)]
              have a1 := r1.1
              have a2 := r2.1
              rw [e] at a1 a2
              cases a1
              cases a2
              rfl
        refine key ev e1 fun t ht => ?_
        have := List.of_mem_zip ht
        obtain ⟨e, _, he⟩ := List.mem_map.mp this.1
        exact ⟨_, he.symm⟩
      rw [this]
      exact er.mono fun v b ⟨bs, q, _⟩ => ⟨bs, PyProof.Rows.Reads.keeps kp q, fun a ha => PyProof.On.reads_mem_get q a ha⟩
    · have : b.2.2 ∈ ps := by rw [← e2]; exact List.mem_map.mpr ⟨b, hb, rfl⟩
      have := depth_mem this
      omega
    · obtain ⟨v1, v2⟩ := tri_back eo
      rw [sort_tri e4, e3] at v2
      have hp0 : H pn = none := I.hok.gone hpn
      have hlen : (((es.1.map fun e => V.ref e.2.1).zip ((kvs.map (·.1)).zip ps)).mergeSort (dataLe false fun b : Tri => b.2.2) |>.map (·.1)).length ≤ sizeLine := by
        rw [v2.length, sort_len]
        exact lim_size hl
      have J := I.laidN (t' := tk) (a := pn) (o := .lst (((es.1.map fun e => V.ref e.2.1).zip ((kvs.map (·.1)).zip ps)).mergeSort (dataLe false fun b : Tri => b.2.2) |>.map (·.1))) (h' := h') kp hpn hp0 ⟨hlen, out.toList, cc, v1, hg⟩
      exact ⟨.ref pn, _, J, rfl, k_newL q w v2 hp0⟩
  | _ => cases hb
/-- a builtin of two arguments -/
def rBlt2 (m : Pm) (b : Nat) : List V → Hp → VK → Prop := fun vs H Q => ∃ c S x y d e r, vs = [x, y] ∧ Wd m c H S ∧ RT m c H x d ∧ RT m c H y e ∧ blt2op b d e = some r ∧ K1 m c H S r Q
theorem call_blt2_0 (hc : X.calm = true) : CallR X (.builtin "max") (rBlt2 (mX X tb) 0) := by
  intro pins s σ H vs us Q I r h
  obtain ⟨c, S, x, y, d, e, z, rfl, w, hx, hy, hb, q⟩ := h
  cases d with
  | int i =>
    cases e with
    | int j =>
      cases hb
      cases hx.int
      cases hy.int
      refine call_max2 hc pins s σ H _ us Q I r ⟨i, j, rfl, ?_⟩
      rw [show (if j > i then j else i) = max i j by split <;> omega]
      exact k_val q w (.int _)
    | _ => cases hb
  | _ => cases hb
theorem call_blt2_1 (hc : X.calm = true) : CallR X (.builtin "min") (rBlt2 (mX X tb) 1) := by
  intro pins s σ H vs us Q I r h
  obtain ⟨c, S, x, y, d, e, z, rfl, w, hx, hy, hb, q⟩ := h
  cases d with
  | int i =>
    cases e with
    | int j =>
      cases hb
      cases hx.int
      cases hy.int
      refine call_min2 hc pins s σ H _ us Q I r ⟨i, j, rfl, ?_⟩
      rw [show (if j < i then j else i) = min i j by split <;> omega]
      exact k_val q w (.int _)
    | _ => cases hb
  | _ => cases hb
end
section
variable {T : Tab} {C : Calls} {m : Pm} {pin : Pin} {W : WX} {σ : L2.St} {H : Hp} {Q : VK} {a b : E}
theorem rd_blt2 {k : Nat} (h : tI T C m pin W (.blt2 k a b) σ H Q) : tCB (rBlt2 m k) (tCons (tI T C m pin W a) (tCons (tI T C m pin W b) tNil)) σ H Q := by
  obtain ⟨c, ρ, S, me, He, E, w, h⟩ := h
  unfold evE at h
  refine tI_weak (tI_two E w h) ?_
  rintro x H1 hx
  refine tI_weak hx ?_
  rintro y H2 ⟨c2, S2, ra, rb, s, w2, xa, xb, hk⟩
  cases h1 : ra.view S2 with
  | none => simp only [h1] at hk; exact hk.elim
  | some dx =>
  cases h2 : rb.view S2 with
  | none => simp only [h1, h2] at hk; exact hk.elim
  | some dy =>
  cases hb : blt2op k dx dy with
  | none => simp only [h1, h2, hb] at hk; exact hk.elim
  | some z =>
  simp only [h1, h2, hb] at hk
  exact ⟨c2, S2, x, y, dx, dy, z, rfl, w2, xa.view w2 h1, xb.view w2 h2, hb, fun c3 H3 v3 s3 w3 x3 => hk c3 H3 v3 (s.trans s3) w3 (x3.back s.dom)⟩
end
end R

set_option maxHeartbeats 4000000
/-! Soundness of the expressions: the theorem. -/
namespace R
open PySem L2
section
variable {tb : Tb} {n : Nm} {T : Tab} {C : Calls} {k : Nat} {N : List Str}
theorem tyS_boot {ty : Nat} {z : String} (h : tyS ty = some z) : bootBuiltins (Str.ofString z) = some (.type z) ∧ (Str.ofString z == ("__debug__" : Str)) = false ∧ Str.ofString z ≠ "__name__" := by
  match ty with
  | 0 => cases h; exact ⟨by decide +kernel, by decide +kernel, by decide +kernel⟩
  | 1 => cases h; exact ⟨by decide +kernel, by decide +kernel, by decide +kernel⟩
  | 2 => cases h; exact ⟨by decide +kernel, by decide +kernel, by decide +kernel⟩
  | 3 => cases h; exact ⟨by decide +kernel, by decide +kernel, by decide +kernel⟩
  | 4 => cases h; exact ⟨by decide +kernel, by decide +kernel, by decide +kernel⟩
  | 5 => cases h; exact ⟨by decide +kernel, by decide +kernel, by decide +kernel⟩
  | n + 6 => cases h
theorem chkC_zero {n : Nm} {fn : Nat → List Str} {N : List Str} : ∀ (cs : Cs) (out : List Nat) (sc : Scope) (gs : List Comprehension), chkC n fn N cs out sc gs = true → (∀ g ∈ gs, g.is_async = 0) ∧ ∀ i ∈ wsOf cs, i ∈ out
  | .nil, out, sc, gs, h => by
    unfold chkC at h
    cases gs with
    | nil => exact ⟨fun g hg => (by cases hg), fun i hi => (by cases hi)⟩
    | cons _ _ => cases h
  | .cons ws tg it c cs, out, sc, gs, h => by
    unfold chkC at h
    split at h
    · simp only [Bool.and_eq_true] at h
      obtain ⟨⟨⟨⟨⟨⟨_, i1⟩, _⟩, _⟩, _⟩, hcs⟩, _⟩ := h
      obtain ⟨z1, z2⟩ := chkC_zero cs _ _ _ hcs
      refine ⟨fun g hg => ?_, fun i hi => by simpa using List.all_eq_true.mp i1 i hi⟩
      rcases List.mem_cons.mp hg with rfl | hg
      · rfl
      · exact z1 g hg
    · cases h
theorem sndIf {tb : Tb} {n : Nm} {T : Tab} {C : Calls} {N : List Str} {c : E} {X : Cx} {sc : Scope} {ifs : List Expr} (f : ∀ z, chkE n tb.fn N c sc false z = true → Snd X (mX X tb) T C noPin noW c z) (h : ifB n tb.fn N c sc ifs = true) : PTs X ifs (tT T C (mX X tb) noPin noW c) := by
  unfold ifB at h
  split at h
  · have hc : c = .cst (.bl true) := by
      unfold isTrueC at h
      split at h
      · rfl
      · cases h
    subst hc
    exact ⟨fun pins s σ H Q I q => pts_nil.run pins s σ H Q I (yes_of q)⟩
  · simp only [Bool.and_eq_true] at h
    exact pts_one ((f _ h.2).pt h.1)
  · cases h
theorem star_any {n : Nm} {fn : Nat → List Str} {N : List Str} {env : PySem.Env} {pos : Pos} : ∀ {es : Es} {sc : Scope} {hot : Bool} {l : List Expr}, chkL n fn N es sc hot l = true → es.starry = true → (backTo pos (starEach l env)).any (·.1) = true
  | .nil, _, _, _, _, h => by cases h
  | .cons e es, sc, hot, l, h, hs => by
    unfold chkL at h
    split at h
    · simp only [Bool.and_eq_true] at h
      rw [star_cons h.1.1]
      have ih := star_any (env := env) (pos := pos) h.2 hs
      show (false || (backTo pos (starEach _ env)).any (·.1)) = true
      rw [ih]
      rfl
    · cases h
  | .star e es, sc, hot, l, h, _ => by
    unfold chkL at h
    split at h
    · rfl
    · cases h
mutual
theorem sndE : ∀ (e : E) {X : Cx} {W : WX} {sc : Scope} {pin : Pin} {hot : Bool} {x : Expr}, Facts (mX X tb) X.mg X.base n T C k → CtxE X k W N sc pin hot → chkE n tb.fn N e sc hot x = true → Snd X (mX X tb) T C pin W e x
  | .var i, X, W, sc, pin, hot, x, F, cx, h => by
    unfold chkE at h
    split at h
    · unfold slotB at h
      simp only [Bool.and_eq_true, decide_eq_true_eq] at h
      obtain ⟨⟨h1, h2⟩, h3⟩ := h
      obtain ⟨o1, o2, _⟩ := okN_of h3
      exact .plain rfl (pe_var (by rw [cx.hN]; exact h1) (cx.vis h2) o1 o2) fun σ H Q q => rd_var q
    · cases h
  | .peek i, X, W, sc, pin, hot, x, F, cx, h => by
    unfold chkE at h
    split at h
    · unfold slotB at h
      simp only [Bool.and_eq_true, decide_eq_true_eq] at h
      obtain ⟨⟨h1, h2⟩, h3⟩ := h
      obtain ⟨o1, o2, _⟩ := okN_of h3
      exact .plain rfl (pe_var (by rw [cx.hN]; exact h1) (cx.vis h2) o1 o2) fun σ H Q q => rd_peek q
    · cases h
  | .glb g, X, W, sc, pin, hot, x, F, cx, h => by
    unfold chkE at h
    split at h
    · unfold glbB at h
      simp only [Bool.and_eq_true, decide_eq_true_eq] at h
      obtain ⟨h1, h2, h3⟩ := h
      obtain ⟨o1, o2, _⟩ := okN_of h3
      cases hg : T.gl g with
      | none =>
        refine ⟨⟨fun pins s σ H Q I q => ?_⟩, fun _ => ⟨fun pins s σ H Q I q => ?_⟩, fun _ _ _ e => by cases e⟩
        · obtain ⟨c, ρ, S, me, He, E, w, q⟩ := q
          unfold evE at q
          rw [hg] at q
          exact q.elim
        · obtain ⟨c, ρ, S, me, He, E, w, q⟩ := q
          unfold evE at q
          rw [hg] at q
          exact q.elim
      | some d =>
        obtain ⟨u, v, e1, e2, e3⟩ := F.gl g d hg
        refine .plain rfl (pe_glob (cx.gl h2) (by rw [h1]; exact e1) e2 o1) fun σ H Q q => ?_
        obtain ⟨c, ρ, S, me, He, E, w, q⟩ := q
        unfold evE at q
        rw [hg] at q
        exact q c H v (Step.refl c H) w (.val (e3 c))
    · cases h
  | .cst d, X, W, sc, pin, hot, x, F, cx, h => by
    unfold chkE at h
    split at h
    · rw [decide_eq_true_eq] at h
      subst h
      exact .plain rfl pe_int fun σ H Q ⟨c, ρ, S, me, He, E, w, q⟩ => q c H _ (Step.refl c H) w (.val (.int _))
    · rw [decide_eq_true_eq] at h
      subst h
      exact .plain rfl pe_bl fun σ H Q ⟨c, ρ, S, me, He, E, w, q⟩ => q c H _ (Step.refl c H) w (.val (.bl _))
    · exact .plain rfl pe_non fun σ H Q ⟨c, ρ, S, me, He, E, w, q⟩ => q c H _ (Step.refl c H) w (.val .non)
    · rw [decide_eq_true_eq] at h
      subst h
      exact .plain rfl pe_str fun σ H Q ⟨c, ρ, S, me, He, E, w, q⟩ => q c H _ (Step.refl c H) w (.val (.str _))
    · cases h
  | .bin op a b, X, W, sc, pin, hot, x, F, cx, h => by
    unfold chkE at h
    split at h
    · simp only [Bool.and_eq_true, decide_eq_true_eq] at h
      obtain ⟨⟨rfl, h1⟩, h2⟩ := h
      exact .plain rfl (pe_op op_bin (sndE a F cx h1).pe (sndE b F cx h2).pe) fun σ H Q q => rd_bin q
    · cases h
  | .neg a, X, W, sc, pin, hot, x, F, cx, h => by
    unfold chkE at h
    split at h
    · exact .plain rfl (pe_un un_neg (sndE a F cx h).pe) fun σ H Q q => rd_neg q
    · cases h
  | .not a, X, W, sc, pin, hot, x, F, cx, h => by
    unfold chkE at h
    split at h
    · simp only [Bool.and_eq_true] at h
      have s := sndE a F cx h.2
      exact ⟨PE.imp (pe_not s.pe) fun σ H Q q => rd_not q, fun _ => PT.imp (pt_not (s.pt h.1)) fun σ H Q q => rdT_not q, fun _ _ _ e => by cases e⟩
    · cases h
  | .and a b, X, W, sc, pin, hot, x, F, cx, h => by
    unfold chkE at h
    split at h
    · rename_i x y p
      simp only [Bool.and_eq_true] at h
      obtain ⟨⟨⟨i1, i2⟩, h1⟩, h2⟩ := h
      have sa := sndE a F cx h1
      have sb := sndE b F cx h2
      have w := pw_and (pos := p) (sa.pt i1) (pw_and1 (sb.pt i2))
      exact ⟨PE.imp (pe_and sa.pe (pe_one sb.pe)) fun σ H Q q => rd_and q, fun _ => PT.imp w.pt fun σ H Q q => rdT_and q, fun _ _ _ e => by cases e; exact ⟨fun whole pins s σ H Q I q => w.run whole pins s σ H Q I (rdT_and q)⟩⟩
    · simp only [Bool.and_eq_true] at h
      obtain ⟨⟨i1, h1⟩, h2⟩ := h
      have sa := sndE a F cx h1
      have sb := sndE b F cx h2
      have w := pw_and (sa.pt i1) (sb.pw _ _ _ rfl)
      exact ⟨PE.imp (pe_and sa.pe sb.pe) fun σ H Q q => rd_and q, fun _ => PT.imp w.pt fun σ H Q q => rdT_and q, fun _ _ _ e => by cases e; exact ⟨fun whole pins s σ H Q I q => w.run whole pins s σ H Q I (rdT_and q)⟩⟩
    · cases h
  | .or a b, X, W, sc, pin, hot, x, F, cx, h => by
    unfold chkE at h
    split at h
    · rename_i x y p
      simp only [Bool.and_eq_true] at h
      obtain ⟨⟨⟨i1, i2⟩, h1⟩, h2⟩ := h
      have sa := sndE a F cx h1
      have sb := sndE b F cx h2
      have w := pw_or (pos := p) (sa.pt i1) (pw_or1 (sb.pt i2))
      exact ⟨PE.imp (pe_or sa.pe (pe_one sb.pe)) fun σ H Q q => rd_or q, fun _ => PT.imp w.pt fun σ H Q q => rdT_or q, fun _ _ _ e => by cases e; exact ⟨fun whole pins s σ H Q I q => w.run whole pins s σ H Q I (rdT_or q)⟩⟩
    · simp only [Bool.and_eq_true] at h
      obtain ⟨⟨i1, h1⟩, h2⟩ := h
      have sa := sndE a F cx h1
      have sb := sndE b F cx h2
      have w := pw_or (sa.pt i1) (sb.pw _ _ _ rfl)
      exact ⟨PE.imp (pe_or sa.pe sb.pe) fun σ H Q q => rd_or q, fun _ => PT.imp w.pt fun σ H Q q => rdT_or q, fun _ _ _ e => by cases e; exact ⟨fun whole pins s σ H Q I q => w.run whole pins s σ H Q I (rdT_or q)⟩⟩
    · cases h
  | .cmp op a b, X, W, sc, pin, hot, x, F, cx, h => by
    unfold chkE at h
    split at h
    · simp only [Bool.and_eq_true, decide_eq_true_eq, Bool.not_eq_true'] at h
      obtain ⟨⟨⟨rfl, hm⟩, h1⟩, h2⟩ := h
      have sa := sndE a F cx h1
      have sb := sndE b F cx h2
      have hu : X.A.units + 64 < cLine := by have := cx.un; omega
      exact .ofCmp (pe_cmpR (op_cmp hu) sa.pe sb.pe hm) (pt_cmpR (op_cmp hu) sa.pe sb.pe hm) rfl fun σ H Q q => rd_cmp q
    · cases h
  | .chain op op' a b c, X, W, sc, pin, hot, x, F, cx, h => by
    unfold chkE at h
    split at h
    · simp only [Bool.and_eq_true, decide_eq_true_eq, Bool.not_eq_true'] at h
      obtain ⟨⟨⟨⟨⟨rfl, rfl⟩, hm⟩, h1⟩, h2⟩, h3⟩ := h
      have sa := sndE a F cx h1
      have sb := sndE b F cx h2
      have sc := sndE c F cx h3
      have hu : X.A.units + 64 < cLine := by have := cx.un; omega
      exact .ofCmp (pe_chain (op_cmp hu) (op_cmp hu) sa.pe sb.pe sc.pe hm) (pt_chain (op_cmp hu) (op_cmp hu) sa.pe sb.pe sc.pe hm) rfl fun σ H Q q => rd_chain q
    · cases h
  | .isin neg a b, X, W, sc, pin, hot, x, F, cx, h => by
    unfold chkE at h
    split at h
    · simp only [Bool.and_eq_true, decide_eq_true_eq, Bool.not_eq_true'] at h
      obtain ⟨⟨⟨rfl, hm⟩, h1⟩, h2⟩ := h
      have sa := sndE a F cx h1
      have sb := sndE b F cx h2
      have hu : X.A.units + 65 < cLine := by have := cx.un; omega
      cases neg with
      | false => exact .ofCmp (pe_cmpR (op_isin (tb := tb) hu).1 sa.pe sb.pe hm) (pt_cmpR (op_isin (tb := tb) hu).1 sa.pe sb.pe hm) rfl fun σ H Q q => rd_isin q
      | true => exact .ofCmp (pe_cmpR (op_isin (tb := tb) hu).2 sa.pe sb.pe hm) (pt_cmpR (op_isin (tb := tb) hu).2 sa.pe sb.pe hm) rfl fun σ H Q q => rd_isin q
    · cases h
  | .isNone neg a, X, W, sc, pin, hot, x, F, cx, h => by
    unfold chkE at h
    split at h
    · simp only [Bool.and_eq_true, decide_eq_true_eq] at h
      obtain ⟨rfl, h1⟩ := h
      have sa := sndE a F cx h1
      cases neg with
      | false => exact .ofCmp (pe_cmp (pc_isN sa.pe)) (pt_cmp (pc_isN sa.pe)) rfl fun σ H Q q => rd_isNone q
      | true => exact .ofCmp (pe_cmp (pc_notN sa.pe)) (pt_cmp (pc_notN sa.pe)) rfl fun σ H Q q => rd_isNotNone q
    · cases h
  | .ite c a b, X, W, sc, pin, hot, x, F, cx, h => by
    unfold chkE at h
    split at h
    · simp only [Bool.and_eq_true] at h
      obtain ⟨⟨⟨i1, h1⟩, h2⟩, h3⟩ := h
      exact ⟨PE.imp (pe_ifExp ((sndE c F cx h1).pt i1) (sndE a F cx h2).pe (sndE b F cx h3).pe) fun σ H Q q => rd_ite q, fun z => (by cases z), fun _ _ _ e => (by cases e)⟩
    · cases h
  | .tup es, X, W, sc, pin, hot, x, F, cx, h => by
    unfold chkE at h
    split at h
    · exact .plain rfl (pe_tup (sndL es F cx h)) fun σ H Q q => rd_tup q
    · cases h
  | .lst es, X, W, sc, pin, hot, x, F, cx, h => by
    unfold chkE at h
    split at h
    · exact .plain rfl (pe_lst (sndL es F cx h)) fun σ H Q q => rd_lst q
    · cases h
  | .idx a b, X, W, sc, pin, hot, x, F, cx, h => by
    unfold chkE at h
    split at h
    · simp only [Bool.and_eq_true] at h
      obtain ⟨⟨i1, h1⟩, h2⟩ := h
      have hu : X.A.units + 64 < cLine := by have := cx.un; omega
      exact .plain rfl (pe_ix (ix_seq.or (ix_dict (tb := tb) hu)) (sndE a F cx h1).pe (sndE b F cx h2).pe (plain_ix i1)) fun σ H Q q => rd_idx q
    · cases h
  | .fld c j a, X, W, sc, pin, hot, x, F, cx, h => by
    unfold chkE at h
    split at h
    · simp only [Bool.and_eq_true, decide_eq_true_eq] at h
      obtain ⟨⟨i1, i2⟩, h1⟩ := h
      exact .plain rfl (pe_fld (sndE a F cx h1).pe (base_ok i2)) fun σ H Q q => rd_fld (n := n) (fun hc => (F.cls c hc).1) i1 q
    · cases h
  | .prop c f a, X, W, sc, pin, hot, x, F, cx, h => by
    unfold chkE at h
    split at h
    · simp only [Bool.and_eq_true, Bool.not_eq_true'] at h
      obtain ⟨⟨⟨i0, i1⟩, i2⟩, h1⟩ := h
      obtain ⟨kd, e1, e2⟩ := kdB_of i1
      cases kd with
      | prop c' x' =>
        simp only [Bool.and_eq_true, decide_eq_true_eq] at e2
        obtain ⟨rfl, rfl⟩ := e2
        obtain ⟨ht, p, fa, fd, ps, P, B, ar, G⟩ := F.prop f _ _ e1
        obtain ⟨c1, c2, c3⟩ := cx.cool i0
        exact .plain rfl (pe_prop (sndE a F cx h1).pe (F.cls _ ht).1.cls P G c2 B .nil passL (base_ok i2)) fun σ H Q q => rd_prop ar q
      | _ => cases e2
    · cases h
  | .call f es, X, W, sc, pin, hot, x, F, cx, h => by
    unfold chkE at h
    split at h
    · rename_i y yp l pos
      simp only [Bool.and_eq_true, Bool.not_eq_true'] at h
      obtain ⟨⟨⟨⟨i0, i1⟩, i2⟩, i3⟩, h1⟩ := h
      obtain ⟨kd, e1, e2⟩ := kdB_of i1
      cases kd with
      | glob x' =>
        simp only [decide_eq_true_eq] at e2
        subst e2
        obtain ⟨fa, fd, ps, hm, hk, B, ar, G⟩ := F.fn f _ e1
        obtain ⟨c1, c2, c3⟩ := cx.cool i0
        unfold glbB at i2
        simp only [Bool.and_eq_true] at i2
        have sl := sndL es F cx h1
        cases l with
        | nil =>
          refine .plain rfl (pe_callS0 G (c2.mono (Nat.le_succ _)) (cx.gl i2.1) hm hk B (passAt cx.tk) (okN_of i2.2).1) fun σ H Q q => ?_
          have q := rd_call ar q
          cases es with
          | nil => exact rd_nil q
          | cons _ _ => cases h1
          | star _ _ => cases h1
        | cons e l =>
          rw [List.all_cons, Bool.and_eq_true] at i3
          exact .plain rfl (pe_callS G (c2.mono (Nat.le_succ _)) (cx.gl i2.1) hm hk B (passAt cx.tk) sl (okN_of i2.2).1 (star_cons i3.1) (star_none i3.2)) fun σ H Q q => rd_call ar q
      | _ => cases e2
    · cases h
  | .make c f es, X, W, sc, pin, hot, x, F, cx, h => by
    unfold chkE at h
    split at h
    · rename_i y yp l pos
      simp only [Bool.and_eq_true, Bool.not_eq_true', decide_eq_true_eq] at h
      obtain ⟨⟨⟨⟨⟨i0, i1⟩, rfl⟩, i2⟩, i3⟩, h1⟩ := h
      obtain ⟨kd, e1, e2⟩ := kdB_of i1
      cases kd with
      | ctor c' =>
        simp only [decide_eq_true_eq] at e2
        subst e2
        obtain ⟨fa, fd, us, hm, M, B, hpos, ar, G⟩ := F.ctor f _ e1
        obtain ⟨c1, c2, c3⟩ := cx.cool i0
        unfold glbB at i2
        simp only [Bool.and_eq_true] at i2
        have sl := sndL es F cx h1
        cases l with
        | nil =>
          refine .plain rfl (pe_makeS0 M G c2 (cx.gl i2.1) hm B (passAt cx.tk) (okN_of i2.2).1) fun σ H Q q => ?_
          have q := rd_make ar q
          cases es with
          | nil => exact rd_nil q
          | cons _ _ => cases h1
          | star _ _ => cases h1
        | cons e l =>
          rw [List.all_cons, Bool.and_eq_true] at i3
          exact .plain rfl (pe_makeS M G c2 (cx.gl i2.1) hm B (passAt cx.tk) sl (okN_of i2.2).1 (star_cons i3.1) (star_none i3.2)) fun σ H Q q => rd_make ar q
      | _ => cases e2
    · cases h
  | .meth c f o es, X, W, sc, pin, hot, x, F, cx, h => by
    unfold chkE at h
    split at h
    · rename_i v y p l p'
      simp only [Bool.and_eq_true, Bool.not_eq_true', decide_eq_true_eq] at h
      obtain ⟨⟨⟨⟨⟨⟨⟨i0, i1⟩, i2⟩, i3⟩, i4⟩, i5⟩, h0⟩, h1⟩ := h
      obtain ⟨kd, e1, e2⟩ := kdB_of i1
      cases kd with
      | meth c' x' =>
        simp only [Bool.and_eq_true, decide_eq_true_eq] at e2
        obtain ⟨rfl, rfl⟩ := e2
        obtain ⟨fa, fd, ps, M, Cl, hno, B, ar, G⟩ := F.meth f _ _ e1
        obtain ⟨c1, c2, c3⟩ := cx.cool i0
        have sl := sndL es F cx h1
        by_cases hst : es.starry = true
        · match l, es, h1, sl, hst with
          | [], .star _ _, h1, _, _ => cases h1
          | [], .cons _ _, h1, _, _ => cases h1
          | _ :: _, .nil, h1, _, _ => cases h1
          | [z], .star e .nil, h1, _, hst =>
            unfold chkL at h1
            split at h1
            · rename_i e' _ _ e1
              simp only [List.cons.injEq] at e1
              obtain ⟨rfl, rfl⟩ := e1
              simp only [Bool.and_eq_true] at h1
              exact .plain rfl (pe_methS1 (sndE o F cx h0).pe Cl M (fnR_of G B) (c2.mono (Nat.le_succ _)) passL (sndE e F cx h1.1).pe i2) fun σ H Q q => tMethST_one (rd_methST hst hno ar q)
            · cases h1
          | [_], .star _ (.cons _ _), h1, _, _ =>
            exfalso
            unfold chkL at h1
            split at h1
            · rename_i e1
              simp only [List.cons.injEq] at e1
              obtain ⟨_, rfl⟩ := e1
              simp [chkL] at h1
            · cases h1
          | [_], .star _ (.star _ _), h1, _, _ =>
            exfalso
            unfold chkL at h1
            split at h1
            · rename_i e1
              simp only [List.cons.injEq] at e1
              obtain ⟨_, rfl⟩ := e1
              simp [chkL] at h1
            · cases h1
          | [_], .cons _ es, h1, _, hst =>
            exfalso
            unfold chkL at h1
            simp only [Bool.and_eq_true] at h1
            cases es with
            | nil => cases hst
            | cons _ _ => simp [chkL] at h1
            | star _ _ => simp [chkL] at h1
          | a :: b :: l, es, h1, sl, hst => exact .plain rfl (pe_methST (sndE o F cx h0).pe Cl M (fnR_of G B) (c2.mono (Nat.le_succ _)) passL sl i2 (by simp) fun pos => star_any h1 hst) fun σ H Q q => rd_methST hst hno ar q
        · have hst : es.starry = false := by simpa using hst
          have i5 : l.all notStar = true := by rw [hst] at i5; simpa using i5
          cases l with
          | nil =>
            refine .plain rfl (pe_methU0 (sndE o F cx h0).pe Cl M.mt G (c2.mono (Nat.le_succ _)) B (passAt cx.tk) i2 i3) fun σ H Q q => ?_
            have q := rd_meth hst hno ar q
            cases es with
            | nil => exact tMethU_nil q
            | cons _ _ => cases h1
            | star _ _ => cases h1
          | cons e l => exact .plain rfl (pe_methU (sndE o F cx h0).pe Cl M.mt G (c2.mono (Nat.le_succ _)) B (passAt cx.tk) sl i2 i5 i3 i4) fun σ H Q q => rd_meth hst hno ar q
      | _ => cases e2
    · cases h
  | .eqOwn neg c f a b, X, W, sc, pin, hot, x, F, cx, h => by
    unfold chkE at h
    split at h
    · simp only [Bool.and_eq_true, Bool.not_eq_true', decide_eq_true_eq] at h
      obtain ⟨⟨⟨⟨⟨i0, rfl⟩, i1⟩, rfl⟩, h1⟩, h2⟩ := h
      obtain ⟨kd, e1, e2⟩ := kdB_of i1
      cases kd with
      | eq c' =>
        simp only [decide_eq_true_eq] at e2
        subst e2
        obtain ⟨c1, c2, c3⟩ := cx.cool i0
        have o := op_eqOwn (tb := tb) F (c2.mono (Nat.le_succ _)) e1
        have hm : ∀ y, behindInMarks .Eq y = false := fun y => nobehind y (by decide) (by decide)
        exact .ofCmp (pe_cmpR o (sndE a F cx h1).pe (sndE b F cx h2).pe (hm _)) (pt_cmpR o (sndE a F cx h1).pe (sndE b F cx h2).pe (hm _)) rfl fun σ H Q q => rd_eqOwn q
      | _ => cases e2
    · cases h
  | .toInt a, X, W, sc, pin, hot, x, F, cx, h => by
    unfold chkE at h
    split at h
    · simp only [Bool.and_eq_true, decide_eq_true_eq] at h
      obtain ⟨⟨⟨⟨rfl, i1⟩, i2⟩, i3⟩, h1⟩ := h
      unfold glbB at i2
      simp only [Bool.and_eq_true] at i2
      obtain ⟨g, hm⟩ := cx.free F i1 i2.1
      exact .plain rfl (pe_callTy call_int2 g hm (by decide +kernel) (pa_cons (sndE a F cx h1).pe pa_nil (star_cons i3)) (by decide) (by decide) (star_cons i3)) fun σ H Q q => rd_toInt q
    · cases h
  | .toList a, X, W, sc, pin, hot, x, F, cx, h => by
    unfold chkE at h
    split at h
    · simp only [Bool.and_eq_true, decide_eq_true_eq] at h
      obtain ⟨⟨⟨⟨⟨i0, rfl⟩, i1⟩, i2⟩, i3⟩, h1⟩ := h
      unfold glbB at i2
      simp only [Bool.and_eq_true] at i2
      obtain ⟨g, hm⟩ := cx.free F i1 i2.1
      exact .plain rfl (pe_callTy call_list_of g hm (by decide +kernel) (pa_cons (sndE a F cx h1).pe pa_nil (star_cons i3)) (by decide) (by decide) (star_cons i3)) fun σ H Q q => rd_toList q
    · cases h
  | .slc a b c, X, W, sc, pin, hot, x, F, cx, h => by
    unfold chkE at h
    split at h
    · simp only [Bool.and_eq_true] at h
      obtain ⟨⟨h1, h2⟩, h3⟩ := h
      exact .plain rfl (pe_slice sl_2 (sndE a F cx h1).pe (po_some (sndE b F cx h2).pe) (po_some (sndE c F cx h3).pe)) fun σ H Q q => rd_slc q
    · cases h
  | .blt b a, X, W, sc, pin, hot, x, F, cx, h => by
    unfold chkE at h
    split at h
    · simp only [Bool.and_eq_true, decide_eq_true_eq, Bool.not_eq_true'] at h
      obtain ⟨⟨⟨⟨⟨i0, ib⟩, i1⟩, i2⟩, i3⟩, h1⟩ := h
      unfold glbB at i2
      simp only [Bool.and_eq_true] at i2
      obtain ⟨g, hm⟩ := cx.free F i1 i2.1
      have hc := (cx.cool i0).1
      match b, ib with
      | 0, ib => cases ib; exact .plain rfl (pe_callB (call_blt0 hc) g hm (by decide +kernel) (pa_cons (sndE a F cx h1).pe pa_nil (star_cons i3)) (by decide) (by decide) (star_cons i3)) fun σ H Q q => rd_blt q
      | 1, ib => cases ib; exact .plain rfl (pe_callB (call_blt1 hc) g hm (by decide +kernel) (pa_cons (sndE a F cx h1).pe pa_nil (star_cons i3)) (by decide) (by decide) (star_cons i3)) fun σ H Q q => rd_blt q
      | 2, ib => cases ib; exact .plain rfl (pe_callB (call_blt2 hc) g hm (by decide +kernel) (pa_cons (sndE a F cx h1).pe pa_nil (star_cons i3)) (by decide) (by decide) (star_cons i3)) fun σ H Q q => rd_blt q
      | 3, ib => cases ib; exact .plain rfl (pe_callTy call_blt3 g hm (by decide +kernel) (pa_cons (sndE a F cx h1).pe pa_nil (star_cons i3)) (by decide) (by decide) (star_cons i3)) fun σ H Q q => rd_blt q
      | 4, ib => cases ib; exact .plain rfl (pe_callB (call_blt4 hc) g hm (by decide +kernel) (pa_cons (sndE a F cx h1).pe pa_nil (star_cons i3)) (by decide) (by decide) (star_cons i3)) fun σ H Q q => rd_blt q
      | 5, ib => cases ib; exact .plain rfl (pe_callB (call_blt5 hc (by have := cx.un; omega)) g hm (by decide +kernel) (pa_cons (sndE a F cx h1).pe pa_nil (star_cons i3)) (by decide) (by decide) (star_cons i3)) fun σ H Q q => rd_blt q
      | 6, ib => cases ib; exact .plain rfl (pe_callB (call_blt6 (by have := cx.un; omega)) g hm (by decide +kernel) (pa_cons (sndE a F cx h1).pe pa_nil (star_cons i3)) (by decide) (by decide) (star_cons i3)) fun σ H Q q => rd_blt q
      | 7, ib => cases ib; exact .plain rfl (pe_callB (call_blt7 hc (by have := cx.un; omega)) g hm (by decide +kernel) (pa_cons (sndE a F cx h1).pe pa_nil (star_cons i3)) (by decide) (by decide) (star_cons i3)) fun σ H Q q => rd_blt q
      | 8, ib => cases ib; exact .plain rfl (pe_callTy call_blt8 g hm (by decide +kernel) (pa_cons (sndE a F cx h1).pe pa_nil (star_cons i3)) (by decide) (by decide) (star_cons i3)) fun σ H Q q => rd_blt q
      | n + 9, ib => cases ib
    · cases h
  | .len a, X, W, sc, pin, hot, x, F, cx, h => by
    unfold chkE at h
    split at h
    · simp only [Bool.and_eq_true, decide_eq_true_eq] at h
      obtain ⟨⟨⟨⟨rfl, i1⟩, i2⟩, i3⟩, h1⟩ := h
      unfold glbB at i2
      simp only [Bool.and_eq_true] at i2
      obtain ⟨g, hm⟩ := cx.free F i1 i2.1
      exact .plain rfl (pe_callB (call_len2 (tb := tb)) g hm (by decide +kernel) (pa_cons (sndE a F cx h1).pe pa_nil (star_cons i3)) (by decide) (by decide) (star_cons i3)) fun σ H Q q => rd_len q
    · cases h
  | .isi ty a, X, W, sc, pin, hot, x, F, cx, h => by
    unfold chkE at h
    split at h
    · rename_i f fp y z zp pos
      simp only [Bool.and_eq_true, decide_eq_true_eq] at h
      obtain ⟨⟨⟨⟨⟨⟨⟨rfl, i1⟩, i2⟩, i3⟩, i4⟩, i5⟩, i6⟩, h1⟩ := h
      unfold glbB at i2 i5
      simp only [Bool.and_eq_true] at i2 i5
      obtain ⟨g, hm⟩ := cx.free F i1 i2.1
      obtain ⟨g2, hm2⟩ := cx.free F i4 i5.1
      obtain ⟨z', e1, e2⟩ := Option.map_eq_some_iff.mp i6
      subst e2
      obtain ⟨b1, b2, b3⟩ := tyS_boot e1
      exact .plain rfl (pe_callB (call_isiT2 (tb := tb) F (ty := ty)) g hm (by decide +kernel) (pa_cons (sndE a F cx h1).pe (pa_cons (pe_bltn (v := .ty z') g2 hm2 b1 rfl b3 b2) pa_nil) (star_cons i3)) (by decide) (by decide) (star_cons i3) rfl) fun σ H Q q => rd_isi e1 q
    · cases h
  | .isiC c a, X, W, sc, pin, hot, x, F, cx, h => by
    unfold chkE at h
    split at h
    · rename_i f fp y z zp pos
      simp only [Bool.and_eq_true, decide_eq_true_eq] at h
      obtain ⟨⟨⟨⟨⟨⟨⟨rfl, i1⟩, i2⟩, i3⟩, i4'⟩, rfl⟩, i5⟩, h1⟩ := h
      unfold glbB at i2 i5
      simp only [Bool.and_eq_true] at i2 i5
      obtain ⟨g, hm⟩ := cx.free F i1 i2.1
      have i4 := F.ncls c i4'
      obtain ⟨cf, hmc⟩ := F.cls c i4
      exact .plain rfl (pe_callB (call_isiC2 (tb := tb) F i4) g hm (by decide +kernel) (pa_cons (sndE a F cx h1).pe (pa_cons (pe_glob (v := .ref (tb.cl c)) (cx.gl i5.1) hmc rfl (okN_of i5.2).1) pa_nil) (star_cons i3)) (by decide) (by decide) (star_cons i3) rfl) fun σ H Q q => rd_isiC q
    · cases h
  | .excIs i c, X, W, sc, pin, hot, x, F, cx, h => by
    unfold chkE at h
    split at h
    · rename_i f fp y z zp pos
      simp only [Bool.and_eq_true, decide_eq_true_eq] at h
      obtain ⟨⟨⟨⟨⟨⟨⟨rfl, i1⟩, i2⟩, i3⟩, i4⟩, rfl⟩, i5⟩, h1⟩ := h
      split at h1
      · unfold glbB at i2 i5
        unfold slotB at h1
        simp only [Bool.and_eq_true, decide_eq_true_eq] at i2 i5 h1
        obtain ⟨⟨h1, h2⟩, h3⟩ := h1
        obtain ⟨o1, o2, _⟩ := okN_of h3
        obtain ⟨g, hm⟩ := cx.free F i1 i2.1
        exact .plain rfl (pe_callB (call_isE2 (tb := tb) F cx) g hm (by decide +kernel) (pa_cons (pe_var (by rw [cx.hN]; exact h1) (cx.vis h2) o1 o2) (pa_cons (pe_glob (v := .ref (tb.cl c)) (cx.gl i5.1) (F.nexc c i4) rfl (okN_of i5.2).1) pa_nil)) (by decide) (by decide) rfl rfl) fun σ H Q q => rd_excIs q
      · cases h1
    · cases h
  | .excFld _ _ _, X, W, sc, pin, hot, x, F, cx, h => by
    unfold chkE at h
    cases h
  | .comp1 own tg it c elt, X, W, sc, pin, hot, x, F, cx, h => by
    unfold chkE at h
    split at h
    · rename_i e' tg' it' ifs' sc' pos
      simp only [Bool.and_eq_true, Bool.not_eq_true'] at h
      obtain ⟨⟨⟨⟨⟨⟨i0, h1⟩, i1⟩, i2⟩, i3⟩, h2⟩, h3⟩ := h
      subst i0
      obtain ⟨c1, c2, c3⟩ := cx.cool rfl
      have nd : X.N.Nodup := by rw [cx.hN]; exact cx.nd
      obtain ⟨si, sf⟩ := sndI it F cx h1
      have sg : ∀ (s : Shared) (H : Hp) (A : Addr) (cl : List (Str × Addr)) (fp : List Addr), PG (X.blk s H sc' (compEnvC sc' cl A X.env) fp) tg' (gTg X.K tg) := fun s H A cl fp => pg_of (X := X.blk s H sc' (compEnvC sc' cl A X.env) fp) cx.hN cx.nd c1 (cx.blk s H A cl fp).so (tgI_l i3)
      have se : ∀ (s : Shared) (H : Hp) (A : Addr) (cl : List (Str × Addr)) (fp : List Addr), PE (X.blk s H sc' (compEnvC sc' cl A X.env) fp) e' (tI T C (mX X tb) noPin noW elt) := fun s H A cl fp => (sndE elt (X := X.blk s H sc' (compEnvC sc' cl A X.env) fp) F (cx.blk s H A cl fp) h2).pe
      have st : ∀ (s : Shared) (H : Hp) (A : Addr) (cl : List (Str × Addr)) (fp : List Addr), PTs (X.blk s H sc' (compEnvC sc' cl A X.env) fp) ifs' (tT T C (mX X tb) noPin noW c) := fun s H A cl fp => by
        split at h3
        · have hc : c = .cst (.bl true) := by
            unfold isTrueC at h3
            split at h3
            · rfl
            · cases h3
          subst hc
          exact ⟨fun pins s σ H Q I q => pts_nil.run pins s σ H Q I (yes_of q)⟩
        · simp only [Bool.and_eq_true] at h3
          exact pts_one ((sndE c (X := X.blk s H sc' (compEnvC sc' cl A X.env) fp) F (cx.blk s H A cl fp) h3.2).pt h3.1)
        · cases h3
      have hp := pe_lc (pos := pos) c1 nd (si tg' (tgI_r i3)) (cx.blkOk i2) sg st se (fun x => sf X.env x)
      rw [ownP_snd] at hp
      subst c3
      exact .plain rfl hp fun σ H Q q => lc_of i1 q
    · cases h
  | .slcL a c, X, W, sc, pin, hot, x, F, cx, h => by
    unfold chkE at h
    split at h
    · simp only [Bool.and_eq_true] at h
      exact .plain rfl (pe_slice sl_2 (sndE a F cx h.1).pe po_none (po_some (sndE c F cx h.2).pe)) fun σ H Q q => rd_slcL q
    · cases h
  | .slcR a b, X, W, sc, pin, hot, x, F, cx, h => by
    unfold chkE at h
    split at h
    · simp only [Bool.and_eq_true] at h
      exact .plain rfl (pe_slice sl_2 (sndE a F cx h.1).pe (po_some (sndE b F cx h.2).pe) po_none) fun σ H Q q => rd_slcR q
    · cases h
  | .slcS _ _ _, X, W, sc, pin, hot, x, F, cx, h => by
    unfold chkE at h
    cases h
  | .dct0, X, W, sc, pin, hot, x, F, cx, h => by
    unfold chkE at h
    split at h
    · exact .plain rfl (pe_newD (tb := tb)) fun σ H Q q => rd_dct0 q
    · cases h
  | .blt2 b a c, X, W, sc, pin, hot, x, F, cx, h => by
    unfold chkE at h
    split at h
    · simp only [Bool.and_eq_true, decide_eq_true_eq, Bool.not_eq_true'] at h
      obtain ⟨⟨⟨⟨⟨⟨⟨i0, ib⟩, i1⟩, i2⟩, i3⟩, i4⟩, h1⟩, h2⟩ := h
      unfold glbB at i2
      simp only [Bool.and_eq_true] at i2
      obtain ⟨g, hm⟩ := cx.free F i1 i2.1
      have hc := (cx.cool i0).1
      match b, ib with
      | 0, ib => cases ib; exact .plain rfl (pe_callB (call_blt2_0 hc) g hm (by decide +kernel) (pa_cons (sndE a F cx h1).pe (pa_cons (sndE c F cx h2).pe pa_nil (star_cons i4)) (star_cons i3)) (by decide) (by decide) (star_cons i3) (star_none (by simp [i3, i4]))) fun σ H Q q => rd_blt2 q
      | 1, ib => cases ib; exact .plain rfl (pe_callB (call_blt2_1 hc) g hm (by decide +kernel) (pa_cons (sndE a F cx h1).pe (pa_cons (sndE c F cx h2).pe pa_nil (star_cons i4)) (star_cons i3)) (by decide) (by decide) (star_cons i3) (star_none (by simp [i3, i4]))) fun σ H Q q => rd_blt2 q
      | n + 2, ib => cases ib
    · cases h
  | .smeth _ _ _, X, W, sc, pin, hot, x, F, cx, h => by
    unfold chkE at h
    cases h
  | .lenO c f a, X, W, sc, pin, hot, x, F, cx, h => by
    unfold chkE at h
    split at h
    · simp only [Bool.and_eq_true, Bool.not_eq_true', decide_eq_true_eq] at h
      obtain ⟨⟨⟨⟨⟨⟨i0, rfl⟩, i1⟩, i2⟩, i3⟩, i4⟩, h1⟩ := h
      unfold glbB at i2
      simp only [Bool.and_eq_true] at i2
      obtain ⟨g, hm⟩ := cx.free F i1 i2.1
      obtain ⟨c1, c2, c3⟩ := cx.cool i0
      obtain ⟨kd, e1, e2⟩ := kdB_of i4
      cases kd with
      | meth c' x' =>
        simp only [Bool.and_eq_true, decide_eq_true_eq] at e2
        obtain ⟨rfl, rfl⟩ := e2
        exact .plain rfl (pe_callB (call_lenO (tb := tb) F c2 e1) g hm (by decide +kernel) (pa_cons (sndE a F cx h1).pe pa_nil (star_cons i3)) (by decide) (by decide) (star_cons i3)) fun σ H Q q => rd_lenO q
      | _ => cases e2
    · cases h
  | .eqDct _ _, X, W, sc, pin, hot, x, F, cx, h => by
    unfold chkE at h
    cases h
  | .compN own tg it c cs elt, X, W, sc, pin, hot, x, F, cx, h => by
    unfold chkE at h
    split at h
    · rename_i e' tg' it' ifs' gs sc' pos
      simp only [Bool.and_eq_true, Bool.not_eq_true'] at h
      obtain ⟨⟨⟨⟨⟨⟨⟨i0, h1⟩, i1⟩, i2⟩, i3⟩, h2⟩, hcs⟩, h3⟩ := h
      subst i0
      obtain ⟨c1, c2, c3⟩ := cx.cool rfl
      have nd : X.N.Nodup := by rw [cx.hN]; exact cx.nd
      obtain ⟨si, sf⟩ := sndI it F cx h1
      have i1' : ∀ i ∈ tg, i ∈ own := fun i hi => by simpa using List.all_eq_true.mp i1 i hi
      have eo : (ownP N own).map (·.2) = own := ownP_snd N own
      refine .plain rfl ?_ fun σ H Q q => cnL_of i1' c3 q
      refine ⟨fun pins s σ H Q I hq => ?_⟩
      rw [eval_ListComp]
      have hz := chkC_zero _ _ _ _ hcs
      refine cn_run (tb := tb) (use := none) c1 nd I (si tg' (tgI_r i3)) (cx.blkOk i2) rfl hz.1 newL_ok (fun H h _ => newLd_ok H h) (fun D => compE_list)
        (fun s H A cl fp => pg_of (X := X.blk s H sc' (compEnvC sc' cl A X.env) fp) cx.hN cx.nd c1 (cx.blk s H A cl fp).so (tgI_l i3)) (fun s H A cl fp => sndIf (fun z hz => sndE c (X := X.blk s H sc' (compEnvC sc' cl A X.env) fp) F (cx.blk s H A cl fp) hz) h3)
        (fun D s H A cl fp => sndC cs (Y := X.blk s H sc' (compEnvC sc' cl A X.env) fp) F (cx.blk s H A cl fp) .never hcs compE_list 0 rfl (CodeOk.imp (emitL_ok (sndE elt (X := X.blk s H sc' (compEnvC sc' cl A X.env) fp) F (cx.blk s H A cl fp) h2).pe) fun σ H N q => emL_of q))
        (by rw [eo]; exact hz.2) (fun x => sf X.env x) (by rw [eo]; exact hq) fin_val
    · cases h
  | .compD own tg it c cs k' v', X, W, sc, pin, hot, x, F, cx, h => by
    unfold chkE at h
    split at h
    · rename_i ek ev tg' it' ifs' gs sc' pos
      simp only [Bool.and_eq_true, Bool.not_eq_true'] at h
      obtain ⟨⟨⟨⟨⟨⟨⟨⟨i0, h1⟩, i1⟩, i2⟩, i3⟩, h2⟩, h2v⟩, hcs⟩, h3⟩ := h
      subst i0
      obtain ⟨c1, c2, c3⟩ := cx.cool rfl
      have nd : X.N.Nodup := by rw [cx.hN]; exact cx.nd
      obtain ⟨si, sf⟩ := sndI it F cx h1
      have i1' : ∀ i ∈ tg, i ∈ own := fun i hi => by simpa using List.all_eq_true.mp i1 i hi
      have eo : (ownP N own).map (·.2) = own := ownP_snd N own
      have hu : X.A.units + 64 < cLine := by have := cx.un; omega
      refine .plain rfl ?_ fun σ H Q q => cnD_of i1' c3 q
      refine ⟨fun pins s σ H Q I hq => ?_⟩
      rw [arm_eval_DictComp]
      have hz := chkC_zero _ _ _ _ hcs
      refine cn_run (tb := tb) (use := none) c1 nd I (si tg' (tgI_r i3)) (cx.blkOk i2) rfl hz.1 newDd_ok (fun H h hb => newD_ok h hb) (fun D => compE_dict)
        (fun s H A cl fp => pg_of (X := X.blk s H sc' (compEnvC sc' cl A X.env) fp) cx.hN cx.nd c1 (cx.blk s H A cl fp).so (tgI_l i3)) (fun s H A cl fp => sndIf (fun z hz => sndE c (X := X.blk s H sc' (compEnvC sc' cl A X.env) fp) F (cx.blk s H A cl fp) hz) h3)
        (fun D s H A cl fp => sndC cs (Y := X.blk s H sc' (compEnvC sc' cl A X.env) fp) F (cx.blk s H A cl fp) .never hcs compE_dict 0 rfl
          (CodeOk.imp (emitD_ok (tb := tb) hu (sndE k' (X := X.blk s H sc' (compEnvC sc' cl A X.env) fp) F (cx.blk s H A cl fp) h2).pe (sndE v' (X := X.blk s H sc' (compEnvC sc' cl A X.env) fp) F (cx.blk s H A cl fp) h2v).pe) fun σ H N q => emD_of q))
        (by rw [eo]; exact hz.2) (fun x => sf X.env x) (by rw [eo]; exact hq) fin_val
    · cases h
  | .mk a, X, W, sc, pin, hot, x, F, cx, h => by
    unfold chkE at h
    have s := sndE a F cx h
    exact ⟨PE.imp s.pe fun σ H Q q => rd_mk q, fun i => PT.imp (s.pt i) fun σ H Q q => rd_mk q, fun op vs p e => ⟨fun whole pins s' σ H Q I q => (s.pw op vs p e).run whole pins s' σ H Q I (rd_mk q)⟩⟩
theorem sndC : ∀ (cs : Cs) {Y : Cx} {sc : Scope} {gs : List Comprehension} {out : List Nat} {e : Expr} {D : Addr} {em : REnv → Store → O → Out O} {last : PySem.Env → Sem PySem.Fin → Sem PySem.Fin}, Facts (mX Y tb) Y.mg Y.base n T C k → CtxE Y k noW N sc noPin false → PassesOwn (model Y.prog Y.w) Y.A Y.env Y.xe →
    chkC n tb.fn N cs out sc gs = true → CompE Y.prog Y.w e D last → ∀ d, (clausesOf e).drop (d + 1) = gs → CodeOk Y (last Y.env) (innC T C (mX Y tb) .nil em D) [] → CodeOk Y (codeAt e d gs (.ref D) Y.env (last Y.env)) (innC T C (mX Y tb) cs em D) (wsOf cs)
  | .nil, Y, sc, gs, out, e, D, em, last, F, cx, hp, h, ce, d, hd, hl => by
    unfold chkC at h
    cases gs with
    | nil => exact hl
    | cons _ _ => cases h
  | .cons ws tg it c cs, Y, sc, gs, out, e, D, em, last, F, cx, hp, h, ce, d, hd, hl => by
    have hz := chkC_zero _ _ _ _ h
    unfold chkC at h
    split at h
    · rename_i tg' it' ifs' gs'
      simp only [Bool.and_eq_true] at h
      obtain ⟨⟨⟨⟨⟨⟨hst, i1⟩, i2⟩, h1⟩, i3⟩, hcs⟩, h3⟩ := h
      obtain ⟨c1, _, _⟩ := cx.cool rfl
      have i2' : ∀ i ∈ tg, i ∈ ws := fun i hi => by simpa using List.all_eq_true.mp i2 i hi
      have hz' := chkC_zero _ _ _ _ hcs
      refine CodeOk.imp ?_ fun σ H N q => cn_next i2' q
      exact next_ok (code := codeAt e (d + 1) gs' (.ref D) Y.env (last Y.env)) c1 hp (drop_at hd).1 (fun it => ce.hq _ it _) (fun it => ce.hu _ _ it _) (fun it => ce.hu1 _ _ it _) (fun it => ce.hden _ it _ _ _ _ _ hd fun g hg => hz.1 g (List.mem_cons_of_mem _ hg)) (fun it => ce.hden1 _ it _)
        (sndIG it hst F cx h1 tg' (tgI_r i3)) (fun x => (sndI it F cx h1).2 Y.env x) (pg_of cx.hN cx.nd c1 cx.so (tgI_l i3)) (sndIf (fun z hz => sndE c F cx hz) h3) (sndC cs F cx hp hcs ce (d + 1) (by rw [← List.drop_drop, hd]; rfl) hl) hz'.2
    · cases h
theorem sndL : ∀ (es : Es) {X : Cx} {W : WX} {sc : Scope} {pin : Pin} {hot : Bool} {x : List Expr}, Facts (mX X tb) X.mg X.base n T C k → CtxE X k W N sc pin hot → chkL n tb.fn N es sc hot x = true → PA X x (tL T C (mX X tb) pin W es)
  | .nil, X, W, sc, pin, hot, x, F, cx, h => by
    unfold chkL at h
    split at h
    · exact PA.imp pa_nil fun σ H Q q => rd_nil q
    · cases h
  | .cons e es, X, W, sc, pin, hot, x, F, cx, h => by
    unfold chkL at h
    split at h
    · simp only [Bool.and_eq_true] at h
      obtain ⟨⟨i1, h1⟩, h2⟩ := h
      exact PA.imp (pa_cons (sndE e F cx h1).pe (sndL es F cx h2) (star_cons i1)) fun σ H Q q => rd_cons q
    · cases h
  | .star e es, X, W, sc, pin, hot, x, F, cx, h => by
    unfold chkL at h
    split at h
    · simp only [Bool.and_eq_true] at h
      exact PA.imp (StX.pa_star (sndE e F cx h.1).pe (sndL es F cx h.2) rfl) fun σ H Q q => rd_star q
    · cases h
theorem sndI : ∀ (it : I) {X : Cx} {W : WX} {sc : Scope} {pin : Pin} {hot : Bool} {x : Expr}, Facts (mX X tb) X.mg X.base n T C k → CtxE X k W N sc pin hot → chkI n tb.fn N it sc hot x = true → (∀ tg, tgOk it tg = true → PI X tg x (wI T C (mX X tb) pin W it)) ∧ ∀ env v, foldedSetIterable x env v = pure v
  | .seq e, X, W, sc, pin, hot, x, F, cx, h => by
    unfold chkI at h
    simp only [Bool.and_eq_true] at h
    exact ⟨fun tg _ => PI.imp (pi_seq (sndE e F cx h.2).pe) fun σ H R q => wI_seq q, fun env v => iter_ok h.1 env v⟩
  | .seqF e, X, W, sc, pin, hot, x, F, cx, h => by
    unfold chkI at h
    simp only [Bool.and_eq_true] at h
    exact ⟨fun tg _ => PI.imp (pi_seq (sndE e F cx h.2).pe) fun σ H R q => wI_seqF q, fun env v => iter_ok h.1 env v⟩
  | .rng1 a, X, W, sc, pin, hot, x, F, cx, h => by
    unfold chkI at h
    split at h
    · simp only [Bool.and_eq_true, decide_eq_true_eq] at h
      obtain ⟨⟨⟨⟨rfl, i1⟩, i2⟩, i3⟩, h1⟩ := h
      unfold glbB at i2
      simp only [Bool.and_eq_true] at i2
      obtain ⟨g, hm⟩ := cx.free F i1 i2.1
      have pa : PA X [_] (tL T C (mX X tb) pin W (.cons a .nil)) := PA.imp (pa_cons (sndE a F cx h1).pe pa_nil (star_cons i3)) fun σ H Q q => tI_weak (rd_cons q) fun v H1 q => rd_nil q
      exact ⟨fun tg _ => PI.imp (pi_range1 g hm pa (star_cons i3)) fun σ H R q => wI_rng1 q, fun env v => iter_ok rfl env v⟩
    · cases h
  | .rng2 a b, X, W, sc, pin, hot, x, F, cx, h => by
    unfold chkI at h
    split at h
    · simp only [Bool.and_eq_true, decide_eq_true_eq] at h
      obtain ⟨⟨⟨⟨⟨⟨rfl, i1⟩, i2⟩, i3⟩, i4⟩, h1⟩, h2⟩ := h
      unfold glbB at i2
      simp only [Bool.and_eq_true] at i2
      obtain ⟨g, hm⟩ := cx.free F i1 i2.1
      have pa : PA X [_, _] (tL T C (mX X tb) pin W (.cons a (.cons b .nil))) := PA.imp (pa_cons (sndE a F cx h1).pe (pa_cons (sndE b F cx h2).pe pa_nil (star_cons i4)) (star_cons i3)) fun σ H Q q => tI_weak (rd_cons q) fun v H1 q => tI_weak (rd_cons q) fun v H1 q => rd_nil q
      exact ⟨fun tg _ => PI.imp (pi_range2 g hm pa (by rw [star_cons i3, star_cons i4]; rfl) (by rw [star_cons i4]; rfl)) fun σ H R q => wI_rng2 q, fun env v => iter_ok rfl env v⟩
    · cases h
  | .rng3 a b c, X, W, sc, pin, hot, x, F, cx, h => by
    unfold chkI at h
    split at h
    · simp only [Bool.and_eq_true, decide_eq_true_eq] at h
      obtain ⟨⟨⟨⟨⟨⟨⟨⟨rfl, i1⟩, i2⟩, i3⟩, i4⟩, i5⟩, h1⟩, h2⟩, h3⟩ := h
      unfold glbB at i2
      simp only [Bool.and_eq_true] at i2
      obtain ⟨g, hm⟩ := cx.free F i1 i2.1
      have pa : PA X [_, _, _] (tL T C (mX X tb) pin W (.cons a (.cons b (.cons c .nil)))) := PA.imp (pa_cons (sndE a F cx h1).pe (pa_cons (sndE b F cx h2).pe (pa_cons (sndE c F cx h3).pe pa_nil (star_cons i5)) (star_cons i4)) (star_cons i3)) fun σ H Q q => tI_weak (rd_cons q) fun v H1 q => tI_weak (rd_cons q) fun v H1 q => tI_weak (rd_cons q) fun v H1 q => rd_nil q
      exact ⟨fun tg ht => PI.imp (pi_range3 g hm pa (by rw [star_cons i3, star_cons i4, star_cons i5] <;> rfl) (by rw [star_cons i4, star_cons i5] <;> rfl)) fun σ H R q => wIG_rng3 (wIG_of q), fun env v => iter_ok rfl env v⟩
    · cases h
  | .zip2 a b, X, W, sc, pin, hot, x, F, cx, h => by
    unfold chkI at h
    split at h
    · simp only [Bool.and_eq_true, decide_eq_true_eq] at h
      obtain ⟨⟨⟨⟨⟨⟨rfl, i1⟩, i2⟩, i3⟩, i4⟩, h1⟩, h2⟩ := h
      unfold glbB at i2
      simp only [Bool.and_eq_true] at i2
      obtain ⟨g, hm⟩ := cx.free F i1 i2.1
      have pa : PA X [_, _] (tL T C (mX X tb) pin W (.cons a (.cons b .nil))) := PA.imp (pa_cons (sndE a F cx h1).pe (pa_cons (sndE b F cx h2).pe pa_nil (star_cons i4)) (star_cons i3)) fun σ H Q q => tI_weak (rd_cons q) fun v H1 q => tI_weak (rd_cons q) fun v H1 q => rd_nil q
      exact ⟨fun tg ht => by
        cases tg <;> first | (cases ht; done) | exact PI.imp (RZ.pi_zipA g hm pa (by rw [star_cons i3, star_cons i4] <;> rfl) (by rw [star_cons i4] <;> rfl)) fun σ H R q => wIG_zip (wIG_of q), fun env v => iter_ok rfl env v⟩
    · cases h
  | .enum a, X, W, sc, pin, hot, x, F, cx, h => by
    unfold chkI at h
    split at h
    · simp only [Bool.and_eq_true, decide_eq_true_eq] at h
      obtain ⟨⟨⟨⟨rfl, i1⟩, i2⟩, i3⟩, h1⟩ := h
      unfold glbB at i2
      simp only [Bool.and_eq_true] at i2
      obtain ⟨g, hm⟩ := cx.free F i1 i2.1
      have pa : PA X [_] (tL T C (mX X tb) pin W (.cons a .nil)) := PA.imp (pa_cons (sndE a F cx h1).pe pa_nil (star_cons i3)) fun σ H Q q => tI_weak (rd_cons q) fun v H1 q => rd_nil q
      exact ⟨fun tg ht => by
        cases tg <;> first | (cases ht; done) | exact PI.imp (pi_enum g hm pa (star_cons i3)) fun σ H R q => wIG_enum (wIG_of q), fun env v => iter_ok rfl env v⟩
    · cases h
  | .keys a, X, W, sc, pin, hot, x, F, cx, h => by
    unfold chkI at h
    simp only [Bool.and_eq_true] at h
    exact ⟨fun tg ht => PI.imp (pi_keysD (tb := tb) (sndE a F cx h.2).pe) fun σ H R q => wIG_keys (wIG_of q), fun env v => iter_ok h.1 env v⟩
theorem sndIG : ∀ (it : I) {X : Cx} {W : WX} {sc : Scope} {pin : Pin} {hot : Bool} {x : Expr}, it.stays = true → Facts (mX X tb) X.mg X.base n T C k → CtxE X k W N sc pin hot → chkI n tb.fn N it sc hot x = true → (∀ tg, tgOk it tg = true → PI X tg x (wIG T C (mX X tb) pin W it))
  | .seq e, X, W, sc, pin, hot, x, hst, F, cx, h => by cases hst
  | .seqF e, X, W, sc, pin, hot, x, hst, F, cx, h => by
    unfold chkI at h
    simp only [Bool.and_eq_true] at h
    exact fun tg _ => PI.imp (pi_seq (sndE e F cx h.2).pe) fun σ H R q => wIG_seqF q
  | .rng1 a, X, W, sc, pin, hot, x, hst, F, cx, h => by
    unfold chkI at h
    split at h
    · simp only [Bool.and_eq_true, decide_eq_true_eq] at h
      obtain ⟨⟨⟨⟨rfl, i1⟩, i2⟩, i3⟩, h1⟩ := h
      unfold glbB at i2
      simp only [Bool.and_eq_true] at i2
      obtain ⟨g, hm⟩ := cx.free F i1 i2.1
      have pa : PA X [_] (tL T C (mX X tb) pin W (.cons a .nil)) := PA.imp (pa_cons (sndE a F cx h1).pe pa_nil (star_cons i3)) fun σ H Q q => tI_weak (rd_cons q) fun v H1 q => rd_nil q
      exact fun tg _ => PI.imp (pi_range1 g hm pa (star_cons i3)) fun σ H R q => wIG_rng1 q
    · cases h
  | .rng2 a b, X, W, sc, pin, hot, x, hst, F, cx, h => by
    unfold chkI at h
    split at h
    · simp only [Bool.and_eq_true, decide_eq_true_eq] at h
      obtain ⟨⟨⟨⟨⟨⟨rfl, i1⟩, i2⟩, i3⟩, i4⟩, h1⟩, h2⟩ := h
      unfold glbB at i2
      simp only [Bool.and_eq_true] at i2
      obtain ⟨g, hm⟩ := cx.free F i1 i2.1
      have pa : PA X [_, _] (tL T C (mX X tb) pin W (.cons a (.cons b .nil))) := PA.imp (pa_cons (sndE a F cx h1).pe (pa_cons (sndE b F cx h2).pe pa_nil (star_cons i4)) (star_cons i3)) fun σ H Q q => tI_weak (rd_cons q) fun v H1 q => tI_weak (rd_cons q) fun v H1 q => rd_nil q
      exact fun tg _ => PI.imp (pi_range2 g hm pa (by rw [star_cons i3, star_cons i4]; rfl) (by rw [star_cons i4]; rfl)) fun σ H R q => wIG_rng2 q
    · cases h
  | .rng3 a b c, X, W, sc, pin, hot, x, hst, F, cx, h => by
    unfold chkI at h
    split at h
    · simp only [Bool.and_eq_true, decide_eq_true_eq] at h
      obtain ⟨⟨⟨⟨⟨⟨⟨⟨rfl, i1⟩, i2⟩, i3⟩, i4⟩, i5⟩, h1⟩, h2⟩, h3⟩ := h
      unfold glbB at i2
      simp only [Bool.and_eq_true] at i2
      obtain ⟨g, hm⟩ := cx.free F i1 i2.1
      have pa : PA X [_, _, _] (tL T C (mX X tb) pin W (.cons a (.cons b (.cons c .nil)))) := PA.imp (pa_cons (sndE a F cx h1).pe (pa_cons (sndE b F cx h2).pe (pa_cons (sndE c F cx h3).pe pa_nil (star_cons i5)) (star_cons i4)) (star_cons i3)) fun σ H Q q => tI_weak (rd_cons q) fun v H1 q => tI_weak (rd_cons q) fun v H1 q => tI_weak (rd_cons q) fun v H1 q => rd_nil q
      exact fun tg ht => PI.imp (pi_range3 g hm pa (by rw [star_cons i3, star_cons i4, star_cons i5] <;> rfl) (by rw [star_cons i4, star_cons i5] <;> rfl)) fun σ H R q => wIG_rng3 q
    · cases h
  | .zip2 a b, X, W, sc, pin, hot, x, hst, F, cx, h => by
    unfold chkI at h
    split at h
    · simp only [Bool.and_eq_true, decide_eq_true_eq] at h
      obtain ⟨⟨⟨⟨⟨⟨rfl, i1⟩, i2⟩, i3⟩, i4⟩, h1⟩, h2⟩ := h
      unfold glbB at i2
      simp only [Bool.and_eq_true] at i2
      obtain ⟨g, hm⟩ := cx.free F i1 i2.1
      have pa : PA X [_, _] (tL T C (mX X tb) pin W (.cons a (.cons b .nil))) := PA.imp (pa_cons (sndE a F cx h1).pe (pa_cons (sndE b F cx h2).pe pa_nil (star_cons i4)) (star_cons i3)) fun σ H Q q => tI_weak (rd_cons q) fun v H1 q => tI_weak (rd_cons q) fun v H1 q => rd_nil q
      exact fun tg ht => by
        cases tg <;> first | (cases ht; done) | exact PI.imp (RZ.pi_zipA g hm pa (by rw [star_cons i3, star_cons i4] <;> rfl) (by rw [star_cons i4] <;> rfl)) fun σ H R q => wIG_zip q
    · cases h
  | .enum a, X, W, sc, pin, hot, x, hst, F, cx, h => by
    unfold chkI at h
    split at h
    · simp only [Bool.and_eq_true, decide_eq_true_eq] at h
      obtain ⟨⟨⟨⟨rfl, i1⟩, i2⟩, i3⟩, h1⟩ := h
      unfold glbB at i2
      simp only [Bool.and_eq_true] at i2
      obtain ⟨g, hm⟩ := cx.free F i1 i2.1
      have pa : PA X [_] (tL T C (mX X tb) pin W (.cons a .nil)) := PA.imp (pa_cons (sndE a F cx h1).pe pa_nil (star_cons i3)) fun σ H Q q => tI_weak (rd_cons q) fun v H1 q => rd_nil q
      exact fun tg ht => by
        cases tg <;> first | (cases ht; done) | exact PI.imp (pi_enum g hm pa (star_cons i3)) fun σ H R q => wIG_enum q
    · cases h
  | .keys a, X, W, sc, pin, hot, x, hst, F, cx, h => by
    unfold chkI at h
    simp only [Bool.and_eq_true] at h
    exact fun tg ht => PI.imp (pi_keysD (tb := tb) (sndE a F cx h.2).pe) fun σ H R q => wIG_keys q
end
end
end R

set_option maxHeartbeats 400000
/-! An own exception over ValueError whose __init__ says super().__init__('..') and no more. -/
namespace R
open PySem PySem.W PySem.Calls PyProof.Rows L2

section
variable {P : Program} {w : World} {K : PySem.W.Frag} {A : Around} {R : Result → Shared → Prop} {h : Heap} {g : Array GenState} {d : Drawn} {t : Nat} {os : OsState} {C fI e t0 : Addr} {body : List Stmt} {scope : Scope} {fd : FuncData} {mg mb : Str → Option Value} {m : Str} {j : Nat} {p0 p1 p2 p3 p4 pos : Pos}
theorem bound_call {u : Addr} {E : Value → Shared → Prop} {rest : List Value} {Q : Value → Shared → Prop} (T : OexC K C) (X : K.In h) (he : h.get? e = some (excObj C t0 none .none)) (hu : h.get? u = some (kxs_mw "ValueError.__init__" e)) (hz : rest.length ≤ sizeLine)
    (hq : ∀ h' t1, (∀ b o, b ≠ e → h.get? b = some o → h'.get? b = some o) → h'.get? e = some (excObj C t1 none .none) → Q .none ⟨h', g, d, t, os⟩) : wpAny (model P w) A (call (.ref u) rest) Q E ⟨h, g, d, t, os⟩ := by
  obtain ⟨_, _, _, _, _, _, _, _, _, _, _, _, _, _, _, lC, _⟩ := T.cls
  have V := PySem.F.excBase_ValueError
  have cls3 : (Value.type "method-wrapper" == Value.type "method" || Value.type "method-wrapper" == Value.type "builtin_function_or_method" || Value.type "method-wrapper" == Value.type "method-wrapper") = true := by decide
  refine wpAny_call (codeAny_of_tree ?_)
  show wpAny (model P w) A.in1 (callAny (.ref u) ⟨rest, []⟩) _ _ _
  simp only [callAny]
  refine wpAny_bind (wpAny_load hu ?_)
  simp only [kxs_mw, cls3, if_true]
  refine KFB.if_so (by decide) (wpAny_bind (check_bound_init V.toExcCallFacts (X _ _ lC) he rfl ?_))
  refine wpAny_bind (wpAny_pure (wpAny_pure ⟨plainId_quiet V.init.plain _, codeAny_builtin V.initEntry ?_⟩))
  exact exc_init_tree (cls := .ref C) (t0 := t0) (dv := none) (c2 := .none) (c3 := .none) (b4 := .bool false) he hz fun h' keep at_ _ => hq h' _ keep at_
theorem sup_call {env : Env} (hl : (p2.endLine == p4.line) = true) : eval (.Call (.Attribute (.Call (.Name "super" p0) [] [] p1) "__init__" p2) [.Constant (.str m) j p3] [] p4) env = (do
      let ov ← attributeBase (.Call (.Name "super" p0) [] [] p1) "__init__" env (eval (.Call (.Name "super" p0) [] [] p1) env)
      standAt p2.atName
      let (f, first) ← holding [ov] (getMethod ov "__init__" (plainOf (.Call (.Name "super" p0) [] [] p1) env))
      callWith p4 f first (backTo p4 (starEach [.Constant (.str m) j p3] env)) []) := by
  rw [arm_eval_Call]
  have hf : methodCallForm ([Expr.Constant (.str m) j p3].length + ([] : List Keyword).length) (backTo p4 (starEach [.Constant (.str m) j p3] env)) (backToKw p4 (keywordEach [] env)) = true := rfl
  simp only [mcall_line hf hl]
  rfl
theorem init_sup (hl : (p2.endLine == p4.line) = true) (F : SupF K P.main.file C fI [.Expr (.Call (.Attribute (.Call (.Name "super" p0) [] [] p1) "__init__" p2) [.Constant (.str m) j p3] [] p4) pos] scope fd) (X : K.In h) (G : h.Ns mainGlobals mg) (B : h.Ns builtinsNs mb) (hg : mg "super" = none) (hb : mb "super" = some (.type "super")) (lim : h.NoLimit)
    (htop : (P.main.scope.names.lookup ("super" : Str)).isSome = false) (room : A.depth < recursionLimit) (he : h.get? e = some (excObj C t0 none .none))
    (hq : ∀ h' t1 tk, (∀ b o, b ≠ e → h.get? b = some o → h'.get? b = some o) → h'.get? e = some (excObj C t1 none .none) → R (.ok (.ret .none)) ⟨h', g, d, tk, os⟩) :
    codeAny (model P w) A (.call (.ref fI) ⟨[.ref e], []⟩) R ⟨h, g, d, t, os⟩ := by
  obtain ⟨oc, od, osl, name, qual, params, dV, kV, doc, pm, ct, an, cda, cc, ccl, cdd, vs, ccs, tf, cl, cld, csl, ar, rfl, lk, hcd, lc, hvs, lcell, hpar, har⟩ := F.fn
  obtain ⟨nm, q, N, bs, bm, sn, sub, ab, col, dd, k0, k1, k2, k3, k5, hC, hbm⟩ := F.T.cls
  have hCd : clsIn K C = some { name := nm, bases := bs, mro := .ref C :: bm, ns := N, qualname := q, hasDict := true, slotNames := sn, subclasses := sub, abstract := ab, collection := col, hasDel := false } := by unfold clsIn; rw [hC] <;> rfl
  have hbind := F.bnd ⟨h, g, d, t, os⟩ [.ref e] X rfl
  refine ks_codeAny_call_defAt (s := ⟨h, g, d, t, os⟩) (fd := ksFn name qual params _ scope dV kV doc pm an (.ref cda) ct cc) (binds := [("self", .ref e)]) room (X _ _ lk) rfl lim (codeRec_of X hcd) rfl hbind F.cells
    (fun y hy => by cases List.mem_singleton.mp hy; exact F.kX) (fun h₀ hns k => ?_) F.co F.gen F.kd
  have X₀ : K.In h₀ := X.keeps k
  have he₀ := k _ _ he
  generalize hL : h.objs.size = L at hns
  have heL : e ≠ L := by rw [← hL]; exact Nat.ne_of_lt (Heap.lt_size he)
  show _root_.PySem.wpAt (model P w) (A.deeper (ksEnv qual scope L fI (.ref cda) cc)) (.func _ (ksEnv qual scope L fI (.ref cda) cc)) (execs _ (ksEnv qual scope L fI (.ref cda) cc)) _ _ _
  refine ks_wpAt_execs_cons (ks_wpAt_Expr_any (ks_wpAt_MethodCall (ks_wpAt_super_base (env := ksEnv qual scope L fI (.ref cda) cc) F.kS F.kC (by decide) rfl (X₀ _ _ lk) rfl hpar rfl (X₀ _ _ lc) rfl hvs (by simp) htop ?_) (sup_call hl)) (by unfold interactive; rw [show (ksEnv qual scope L fI (.ref cda) cc).scope.kind = .function from F.kd]; rfl) rfl)
  refine ks_loadName_global F.kd F.kS (loadGlobal_builtin (env := ksEnv qual scope L fI (.ref cda) cc) (G.keeps k) hg (B.keeps k) hb ⟨rfl, ?_⟩)
  refine wpAny_loadName_free F.kd F.kC rfl ⟨_, X₀ _ _ lcell, rfl⟩ ?_
  rw [har]
  refine wpAny_loadName_local F.kd F.kX hns rfl ?_
  refine ks_wpAny_isType_cls (X₀ _ _ hC) rfl ⟨rfl, ?_⟩
  refine ks_wpAny_call_super (X₀ _ _ hC) rfl he₀ rfl (fun c z => by cases z) (looks_mroIn X₀ F.mC) (fun h1 e1 k1 => ?_)
  have X1 : K.In h1 := X₀.keeps k1
  have he1 := k1 _ _ he₀
  have I1 : InstAt h1 e (excObj C t0 none .none) C none := ⟨he1, rfl, rfl, trivial⟩
  have hm := F.sup
  unfold ks_superIn at hm
  rw [hCd] at hm
  refine kxs_getMethod kxs_ValueError e1 (looks_opaque X1 F.opq) (l₀ := .ref C :: bm) (fun A Q E s k q => wpAny_bind ((looks_clsIn X1 hCd) A _ E s k (wpAny_pure q))) rfl X1 hm (I1.type.andThen (looks_subIn X1 F.sVE)) (ks_ne X1 I1 hCd) (by decide) ?_
  have k2 : ∀ b o, h1.get? b = some o → (h1.push (kxs_mw "ValueError.__init__" e)).get? b = some o := fun b o z => Heap.get?_push_of_some _ z
  have he2 := k2 _ _ he1
  have hu2 : (h1.push (kxs_mw "ValueError.__init__" e)).get? h1.objs.size = some (kxs_mw "ValueError.__init__" e) := Heap.get?_push_at rfl rfl
  refine kxs_callWith (i := "ValueError.__init__") (x := e) rfl (evalArgs_plain (args_cons (Constant_str (args_nil ⟨hu2, ?_⟩))))
  refine bound_call F.T (X1.keeps k2) he2 hu2 (by show 1 ≤ sizeLine; decide) fun h3 t1 k3 e3 => ?_
  refine _root_.PySem.wpAt_of_wpAny (wpAny_execs_nil ?_)
  refine hq h3 t1 _ (fun b o hb z => k3 b o hb (k2 b o (k1 b o (k b o z)))) e3
end
/-- C(): the exception is made -/
theorem pmk_sup {X : Cx} {k : Nat} {x m : Str} {j : Nat} {p pos p0 p1 p2 p3 p4 p5 : Pos} {C fI : Addr} {scope : Scope} {fd : FuncData} (hl : (p2.endLine == p4.line) = true) (F : SupF X.K X.prog.main.file C fI [.Expr (.Call (.Attribute (.Call (.Name "super" p0) [] [] p1) "__init__" p2) [.Constant (.str m) j p3] [] p4) p5] scope fd)
    (htop : (X.prog.main.scope.names.lookup ("super" : Str)).isSome = false) (hr : Room (k + 1) X.A) (hg : Gl X x) (hm : X.mg x = some (.ref C)) (hs : X.mg "super" = none) (hdb : (x == ("__debug__" : Str)) = false) :
    PMk X (.Call (.Name x p) [] [] pos) (fun _ H Q => Q (.ref C) none H) := by
  intro pins s σ H Q I h
  obtain ⟨nm, q, N, bs, bm, sn, sub, ab, col, dd, k0, k1, k2, k3, k5, hC, hbm⟩ := F.T.cls
  refine wpAny_Call_Name_kw (ld_glob I hg hm ?_ hdb)
  refine PySem.W.callWith_K0 I.kIn F.T.kC ?_
  obtain ⟨hp, g, dr, tk, os⟩ := s
  have X0 : X.K.In hp := I.kIn
  have kk : ∀ b o, hp.get? b = some o → ((hp.push (PySem.W.kdv_tup [])).push (PySem.HandSPX.excO C hp.objs.size)).get? b = some o := fun b o e => Heap.get?_push_of_some _ (Heap.get?_push_of_some _ e)
  have hget : ((hp.push (PySem.W.kdv_tup [])).push (PySem.HandSPX.excO C hp.objs.size)).get? (hp.objs.size + 1) = some (PySem.HandSPX.excO C hp.objs.size) := by heap_get
  have hnone : hp.get? (hp.objs.size + 1) = none := Heap.get?_none_of_le (Nat.le_succ _)
  obtain ⟨mb, hB, hB2⟩ := I.ok.mod.blt
  have bk : ∀ b o, X.base.get? b = some o → hp.get? b = some o := I.bk
  refine wpAny_call (PySem.HandSPX.call_own PySem.F.excBase_ValueError (fun Y => PySem.HandSPX.refsVE_contains Y bm hbm) (X0 _ _ hC) (PySem.W.looks_findIn X0 F.ini) (fun self => PySem.W.bind_fn X0 self F.tyI) (rest := []) (Nat.zero_le _)
    (init_sup (mb := mb) (mg := X.mg) hl F (X0.keeps kk) ((I.ok.mod.glob.keeps bk).keeps kk) ((hB.keeps bk).keeps kk) hs ((hB2 _ (by decide)).trans (by decide +kernel)) ((I.ok.mod.nolimit.keeps bk).keeps kk) htop (hr.make C [] []).depth hget
      (fun h' t1 tk' k e => ?_)))
  refine ⟨rfl, ?_⟩
  refine ⟨hp.objs.size + 1, excObj C t1 none .none, _, ⟨hp, g, dr, tk, os⟩, H, .ref C, none, rfl, I, fun b o z => k b o (fun y => ?_) (kk b o z), hnone, e, ⟨rfl, rfl⟩, rfl, rfl, I.hok.gone hnone, rfl, I.bare, raises_own F.T.exC F.T.tyC, h⟩
  rw [y, hnone] at z
  cases z
end R

set_option maxHeartbeats 2000000
/-! Several except clauses, some with a name: the caught exception as one record, what a clause does with it as lemmas of the record. -/
namespace R
open PySem PySem.Spec PyProof.Rows L2
/-- what a suite is, by the caught exception -/
abbrev SuT := Addr → Value → Option Addr → TS
/-- behind a suite whose name goes -/
def goneD (D : Ends) (i : Nat) : Ends where
  nx τ G := D.nx (τ.set i none) G
  rt := D.rt
  bk τ G := D.bk (τ.set i none) G
  ct τ G := D.ct (τ.set i none) G
/-- where a clause's suite begins and ends -/
def atSuite (i : Option Nat) (D : Ends) (ts : Ends → L2.St → Hp → Prop) (a : Addr) (τ : L2.St) (G : Hp) : Prop := match i with
  | none => ts D τ G
  | some i => ts (goneD D i) (τ.set i (some (.ref a))) G
/-- the wish about an exception of the body: clause by clause -/
def wMix (K : PySem.W.Frag) (Wo : WX) (D : Ends) : List (Value × Option Nat × SuT) → WX
  | [] => Wo
  | (c, i, ts) :: more => fun k d τ G => ∃ q, PySem.W.exmOne K k c = some q ∧ (q = true → ∀ a, G a = none → atSuite i D (ts a k d) a τ G) ∧ (q = false → wMix K Wo D more k d τ G)
/-- a suite does what ts says, whatever exception is held -/
def SuOk (X : Cx) (l : List Stmt) (ts : SuT) : Prop := ∀ (a : Addr) (ob : Obj) (k : Value) (d : Option Addr) (pl : List (Addr × Obj)), Zc k d ob → (∃ vs, ob.data = .fields vs) → PSs (X.suite a ((a, ob) :: pl)) l (ts a k d)
/-- the clause's own name -/
def NmOk (X : Cx) : Option Nat → Option Str → Prop
  | none, none => True
  | some i, some y => X.N[i]? = some y ∧ X.env.kindOf y = some .local
  | _, _ => False
inductive HdX (X : Cx) : List ExceptHandler → List (Value × Option Nat × SuT) → Prop
  | nil : HdX X [] []
  | cons {x : Str} {nm : Option Str} {i : Option Nat} {c : Value} {ts : SuT} {st : Stmt} {sts : List Stmt} {p1 p2 : Pos} {more : List ExceptHandler} {l : List (Value × Option Nat × SuT)} :
      Names X x c → NmOk X i nm → SuOk X (st :: sts) ts → HdX X more l → HdX X (.ExceptHandler (some (.Name x p1)) nm (st :: sts) p2 :: more) ((c, i, ts) :: l)
/-- an exception that has been caught: sB the state without it, sA with it, its heap h -/
structure Held (X : Cx) (pl : List (Addr × Obj)) (τ : L2.St) (G : Hp) (B : Heap) (a : Addr) (k : Value) (d : Option Addr) (sB sA : Shared) (h : Heap) : Prop where
  was : Inv X pl τ G sB
  ground : ∀ b o, sB.heap.get? b = some o → b ∉ frs X.stack → B.get? b = some o
  grown : sB.heap.UpToSlots h
  flies : HandSPX.FlyingZ B (X.env :: X.outer) a (Zc k d) h
  away : G a = none
  sys : sA.os = sB.os
  gens : AllBare sA.gens
namespace Held
variable {X : Cx} {pl : List (Addr × Obj)} {τ : L2.St} {G : Hp} {B h h' : Heap} {a : Addr} {k c : Value} {d : Option Addr} {sB sA : Shared}
theorem now (z : Held X pl τ G B a k d sB sA h) : Inv X pl τ G { sA with heap := h } := z.was.landed z.ground z.flies.1 z.grown z.sys z.gens
theorem later (z : Held X pl τ G B a k d sB sA h) (g : h.UpToSlots h') (f : HandSPX.FlyingZ B (X.env :: X.outer) a (Zc k d) h') : Held X pl τ G B a k d sB sA h' := { z with grown := z.grown.trans g, flies := f }
/-- its object, and the suite's context -/
theorem within (z : Held X pl τ G B a k d sB sA h) (hfr : X.env.frame = some X.env.locals) : ∃ ob, Zc k d ob ∧ (∃ vs, ob.data = .fields vs) ∧ h.get? a = some ob ∧ Inv (X.suite a ((a, ob) :: (X.pn ++ pl))) [] τ G { sA with heap := h } := by
  obtain ⟨ob, vs, at_, zc, fl⟩ := z.flies.there
  have out : a ∉ frs (X.env :: X.outer) := by
    intro q
    obtain ⟨_, ob', at', no⟩ := z.flies.2.2.1.mem q
    cases at_.symm.trans at'
    exact no vs fl
  have o1 : a ≠ X.env.locals := by
    intro q
    exact out (List.mem_filterMap.mpr ⟨X.env, .head _, hfr.trans (congrArg some q.symm)⟩)
  have o2 : a ∉ X.fs := by
    intro q
    obtain ⟨e, m, q'⟩ := List.mem_filterMap.mp q
    exact out (List.mem_filterMap.mpr ⟨e, .tail _ m, q'⟩)
  exact ⟨ob, zc, ⟨vs, fl⟩, at_, z.now.suite at_ fl z.away o1 o2⟩
/-- the class that a clause names is asked for -/
theorem asks (z : Held X pl τ G B a k d sB sA h) (hfr : X.env.frame = some X.env.locals) {x : Str} {p : Pos} (nx : Names X x c) {Q : Value → Shared → Prop} {E : Value → Shared → Prop} (q : Q c { sA with heap := h }) :
    wpAny (model X.prog X.w) (X.A.mark (some (.ref a))) (eval (.Name x p) X.env) Q E { sA with heap := h } := by
  obtain ⟨ob, _, _, _, J⟩ := z.within hfr
  obtain ⟨g, dbg, m | ⟨m, bt, nn⟩⟩ := nx
  · exact ld_glob (X := X.suite a ((a, ob) :: (X.pn ++ pl))) J g m q dbg
  · exact ld_blt (X := X.suite a ((a, ob) :: (X.pn ++ pl))) J g m bt q nn dbg
/-- is it one of that class? -/
theorem told (z : Held X pl τ G B a k d sB sA h) (hfr : X.env.frame = some X.env.locals) {q : Bool} (e : PySem.W.exmOne X.K k c = some q) : PySem.W.Looks (model X.prog X.w) h (excMatches (.ref a) c) q := by
  obtain ⟨ob, zc, _, at_, _⟩ := z.within hfr
  exact PySem.W.exm_one (M := model X.prog X.w) z.now.kIn (fun A Q E s keep yes => wpAny_typeOf_ref (keep _ _ at_) (by rw [zc.1]; exact yes)) e
/-- no clause takes it -/
theorem goes (z : Held X pl τ G B a k d sB sA h) (hst : X.stack = X.env :: X.outer) (hfr : X.env.frame = some X.env.locals) {Wo : WX} (tk : Takes X Wo) (w : Wo k d τ G) {Q : Flow → Shared → Prop} :
    wpAny (model X.prog X.w) X.A (handleBy (.ref a) X.env []) Q X.xe { sA with heap := h } := by
  apply wpAny_handleBy_nil
  obtain ⟨ob, vs, tr, _, _, at_, _, fl, v1, _⟩ := z.flies.2.2.2
  have last : wpAny (model X.prog X.w) X.A (setFlight (.ref a) X.env.frame) (fun _ u => wpAny (model X.prog X.w) X.A (throw (.ref a) : Sem Flow) Q X.xe u) X.xe { sA with heap := h } := by
    rw [hfr]
    apply HandSPX.setFlight_upZ z.flies
    intro h2 held up
    apply wpAny_throw
    apply tk
    refine ⟨a, B, sB, pl, τ, G, k, d, rfl, z.was, z.ground, z.grown.trans up, ?_, z.away, z.sys, z.gens, w⟩
    rw [hst]
    exact .inr (.inr held)
  unfold PySem.passOn
  apply wpAny_bind
  apply wpAny_field at_ fl v1
  have nn : ¬ (Value.ref tr == Value.none) = true := by simp
  rw [if_neg nn]
  first
    | exact wpAny_bind last
    | exact wpAny_bind (wpAny_pure (wpAny_bind last))
/-- what a suite left, seen from the try -/
theorem left {ob : Obj} {D : Ends} {f : Flow} {s : Shared} (ok : X.Ok) (q : SP (X.suite a ((a, ob) :: (X.pn ++ pl))) [] D f s) : SP X pl D f s := by
  cases f with
  | ret u => exact let ⟨v, τ, G, J, r, q⟩ := q; ⟨v, τ, G, J.unsuite ok, r, q⟩
  | next => exact let ⟨τ, G, J, q⟩ := q; ⟨τ, G, J.unsuite ok, q⟩
  | brk => exact let ⟨τ, G, J, q⟩ := q; ⟨τ, G, J.unsuite ok, q⟩
  | cont => exact let ⟨τ, G, J, q⟩ := q; ⟨τ, G, J.unsuite ok, q⟩
/-- .. the name gone -/
theorem gone {D : Ends} {f : Flow} {s : Shared} {i : Nat} {y : Str} {p : Pos} (nd : X.N.Nodup) (hi : X.N[i]? = some y) (hl : X.env.kindOf y = some .local) (q : SP X pl (goneD D i) f s) :
    wpAny (model X.prog X.w) X.A (do bindName X.env y .none; unbindBehindTheSuite X.env y p) (fun _ s' => SP X pl D f s') X.xe s := by
  cases f with
  | ret u => exact let ⟨v, τ, G, J, r, q⟩ := q; gone_ok J nd hi hl fun s' J' => ⟨v, _, G, J', r, q⟩
  | next => exact let ⟨τ, G, J, q⟩ := q; gone_ok J nd hi hl fun s' J' => ⟨_, G, J', q⟩
  | brk => exact let ⟨τ, G, J, q⟩ := q; gone_ok J nd hi hl fun s' J' => ⟨_, G, J', q⟩
  | cont => exact let ⟨τ, G, J, q⟩ := q; gone_ok J nd hi hl fun s' J' => ⟨_, G, J', q⟩
/-- a clause's suite -/
theorem runs (z : Held X pl τ G B a k d sB sA h) (hfr : X.env.frame = some X.env.locals) (nd : X.N.Nodup) {D : Ends} {i : Option Nat} {nm : Option Str} {st : Stmt} {sts : List Stmt} {p : Pos} {ts : SuT}
    (hn : NmOk X i nm) (su : SuOk X (st :: sts) ts) (w : atSuite i D (ts a k d) a τ G) {R : Shared → Prop} :
    codeAny (model X.prog X.w) (X.A.mark (some (.ref a))) (.handlers (.ref a) [.ExceptHandler none nm (st :: sts) p] X.env) (fun r s => match r with
      | .ok f => (match (generalizing := false) nm with
        | none => SP X pl D f s
        | some y => wpAny (model X.prog X.w) X.A (do bindName X.env y .none; unbindBehindTheSuite X.env y p) (fun _ s' => SP X pl D f s') X.xe s)
      | .error x => cameBackBy (model X.prog X.w) X.A X.env X.xe x s) { sA with heap := h } := by
  have ok := z.was.ok
  cases i with
  | none =>
    cases nm with
    | some y => exact hn.elim
    | none =>
      apply codeAny_handlers_suite
      apply HandSPX.lands_againZ z.flies
      intro h2 fl2 up2
      obtain ⟨ob, zc, ff, _, J⟩ := (z.later up2 fl2).within hfr
      exact wpAny_mono ((su a ob k d (X.pn ++ pl) zc ff).run [] _ _ G _ J w) (fun f s q => left ok q) (fun _ _ q => q.elim)
  | some i =>
    cases nm with
    | none => exact hn.elim
    | some y =>
      apply codeAny_handlers_suite_as
      apply HandSPX.lands_againZ z.flies
      intro h2 fl2 up2
      obtain ⟨ob, zc, ff, _, J⟩ := (z.later up2 fl2).within hfr
      apply store_ok (X := X.suite a ((a, ob) :: (X.pn ++ pl))) (v := .ref a) J nd hn.1 (.inl hn.2) rfl _ (.inr hn.2)
      intro s5 J5
      exact wpAny_mono ((su a ob k d (X.pn ++ pl) zc ff).run [] s5 _ G _ J5 w) (fun f s q => gone nd hn.1 hn.2 (left ok q)) (fun _ _ q => q.elim)
/-- the clauses, one behind the other -/
theorem all (z : Held X pl τ G B a k d sB sA h) (hst : X.stack = X.env :: X.outer) (hfr : X.env.frame = some X.env.locals) (nd : X.N.Nodup) {Wo : WX} (tk : Takes X Wo) {D : Ends} :
    ∀ {hs : List ExceptHandler} {l : List (Value × Option Nat × SuT)}, HdX X hs l → wMix X.K Wo D l k d τ G → wpAny (model X.prog X.w) X.A (handleBy (.ref a) X.env hs) (SP X pl D) X.xe { sA with heap := h }
  | _, _, .nil, w => z.goes hst hfr tk w
  | _, _, .cons nx hn su more, w => by
    obtain ⟨q, e, yes, no⟩ := w
    apply wpAny_handleBy_cons _ (by intro y; cases y)
    apply codeAny_handlers_test
    apply z.asks hfr nx
    apply (z.told hfr e).here
    cases q with
    | true => exact z.runs (R := fun _ => True) hfr nd hn su (yes rfl a z.away)
    | false => exact all z hst hfr nd tk more (no rfl)
end Held
theorem ps_try_mix {X : Cx} {body : List Stmt} {h₀ : ExceptHandler} {hds : List ExceptHandler} {l : List (Value × Option Nat × SuT)} {pos : Pos} {tb : WX → TS} {Wo : WX} (hst : X.stack = X.env :: X.outer) (hfr : X.env.frame = some X.env.locals) (nd : X.N.Nodup) (tk : Takes X Wo)
    (hb : ∀ (W : WX) (pl : List (Addr × Obj)) (xe : Value → Shared → Prop), Takes (X.tr pl xe) W → PassesOwn (model X.prog X.w) X.A X.env xe → PSs (X.tr pl xe) body (tb W))
    (hh : HdX X (h₀ :: hds) l) : PS X (.Try body (h₀ :: hds) [] [] pos) (fun D τ G => tb (wMix X.K Wo D l) D τ G) := by
  constructor
  intro pl s τ G D J w
  have ok := J.ok
  have two : X.A.frames = some (X.env :: X.outer) := ok.frames.trans (congrArg some hst)
  apply wpAny_Try_except
  let catch1 : Value → Shared → Prop := fun u s1 => wpAny (model X.prog X.w) X.A (noteFrame u X.env) (fun _ s2 =>
    wpAny (model X.prog X.w) X.A (setFlight u none) (fun _ s3 => wpAny (model X.prog X.w) X.A (handleBy u X.env (h₀ :: hds)) (SP X pl D) X.xe s3) X.xe s2) X.xe s1
  have run := (hb (wMix X.K Wo D l) (X.pn ++ pl) catch1 (fun u s' c => ?_) PassesOwn.looking).run [] s τ G D (J.toTry _) w
  · refine wpAny_mono run (fun f s1 q => ?_) fun _ _ q => q
    cases f with
    | next => exact let ⟨τ1, G1, J1, q1⟩ := q; wpAny_execs_nil ⟨τ1, G1, J1.ofTry ok, q1⟩
    | brk => exact let ⟨τ1, G1, J1, q1⟩ := q; ⟨τ1, G1, J1.ofTry ok, q1⟩
    | cont => exact let ⟨τ1, G1, J1, q1⟩ := q; ⟨τ1, G1, J1.ofTry ok, q1⟩
    | ret u => exact let ⟨v, τ1, G1, J1, r, q1⟩ := q; ⟨v, τ1, G1, J1.ofTry ok, r, q1⟩
  · obtain ⟨a, B, sB, pl', τ1, G1, k, d, rfl, J1, gr, up, sky, away, sys, gens, wish⟩ := c
    have sky2 : Sky B (X.env :: X.outer) a (Zc k d) X.env.locals s'.heap := by
      rw [← hst]
      exact sky
    apply Sky.land Zc.steady two hfr sky2
    intro h3 fl up3
    exact Held.all (sB := sB) (sA := s') ⟨J1.ofTry ok, gr, up.trans up3, fl, away, sys, gens⟩ hst hfr nd tk hh wish
end R

set_option maxHeartbeats 2000000
/-! What a statement's outcome promises; the readings of the statements. -/
namespace R
open PySem L2
def PostS (m : Pm) (W : WX) (c0 : Cfg) (He : Hp) (me : Addr) (pin : Pin) (c : Cfg) (out : OutS) (D : Ends) : Prop := match out with
  | .nx ρ S => ∀ c' H' σ', Step c0 He c' H' → Le c c' → Wd m c' H' S → EnvR m c' H' pin me He ρ σ' → D.nx σ' H'
  | .bk ρ S => ∀ c' H' σ', Step c0 He c' H' → Le c c' → Wd m c' H' S → EnvR m c' H' pin me He ρ σ' → D.bk σ' H'
  | .rt r S => ∀ c' H' v, Step c0 He c' H' → Le c c' → Wd m c' H' S → RRv m c' H' He v r → D.rt v H'
  | .exc k ds ρ S => ∀ c' H' σ' cls d, Step c0 He c' H' → Le c c' → Wd m c' H' S → EnvR m c' H' pin me He ρ σ' → ExR m c' cls d k ds → W cls d σ' H'
  | .bad => False
def tS (T : Tab) (C : Calls) (m : Pm) (pin : Pin) (W : WX) (t : R.T) : TS := fun D σ H => ∃ c0 He me c ρ S, Step c0 He c H ∧ Wd m c H S ∧ EnvR m c H pin me He ρ σ ∧ PostS m W c0 He me pin c (exT T C t ρ S) D
section
variable {T : Tab} {C : Calls} {m : Pm} {pin : Pin} {W : WX} {σ : St} {H He : Hp} {D : Ends} {c0 c c1 : Cfg} {me p : Addr} {ρ : REnv} {S : Store} {out : OutS} {e o : E} {es : Es} {t a b : R.T} {i : Nat}
theorem PostS.mono (l : Le c c1) (h : PostS m W c0 He me pin c out D) : PostS m W c0 He me pin c1 out D := by
  cases out with
  | nx ρ S => exact fun c' H' σ' s l' w E => h c' H' σ' s (l.trans l') w E
  | bk ρ S => exact fun c' H' σ' s l' w E => h c' H' σ' s (l.trans l') w E
  | rt r S => exact fun c' H' v s l' w E => h c' H' v s (l.trans l') w E
  | exc k ds ρ S => exact fun c' H' σ' cls d s l' w E x => h c' H' σ' cls d s (l.trans l') w E x
  | bad => exact h
/-- an expression in a statement -/
theorem st_e {f : Rv → Store → OutS} (s0 : Step c0 He c H) (w : Wd m c H S) (E : EnvR m c H pin me He ρ σ) (h : PostS m W c0 He me pin c ((evE T C e ρ S).thn ρ f) D) :
    tI T C m pin W e σ H (fun v H1 => ∃ c1 S1 r, Step c H c1 H1 ∧ Wd m c1 H1 S1 ∧ RRv m c1 H1 H v r ∧ PostS m W c0 He me pin c1 (f r S1) D) := by
  refine ⟨c, ρ, S, me, He, E, w, ?_⟩
  cases q : evE T C e ρ S with
  | ok r S1 =>
    rw [q] at h
    exact fun c' H' v st w' x => ⟨c', S1, r, st, w', x, h.mono st.le⟩
  | exc k ds S1 =>
    rw [q] at h
    exact fun c' H' cls d st w' x => h c' H' σ cls d (s0.trans st) st.le w' (E.step st) x
  | bad =>
    rw [q] at h
    exact h
theorem st_es {f : List R.D → Store → OutS} (s0 : Step c0 He c H) (w : Wd m c H S) (E : EnvR m c H pin me He ρ σ) (h : PostS m W c0 He me pin c ((evL T C es ρ S).thn ρ f) D) :
    tL T C m pin W es σ H (fun vs H1 => ∃ c1 S1 ds, Step c H c1 H1 ∧ Wd m c1 H1 S1 ∧ RDs m c1 vs ds ∧ PostS m W c0 He me pin c1 (f ds S1) D) := by
  refine ⟨c, ρ, S, me, He, E, w, ?_⟩
  cases q : evL T C es ρ S with
  | ok r S1 =>
    rw [q] at h
    exact fun c' H' v st w' x => ⟨c', S1, r, st, w', x, h.mono st.le⟩
  | exc k ds S1 =>
    rw [q] at h
    exact fun c' H' cls d st w' x => h c' H' σ cls d (s0.trans st) st.le w' (E.step st) x
  | bad =>
    rw [q] at h
    exact h
theorem st_to (s0 : Step c0 He c H) (w : Wd m c H S) (E : EnvR m c H pin me He ρ σ) (h : PostS m W c0 He me pin c (exT T C t ρ S) D) : tS T C m pin W t D σ H := ⟨c0, He, me, c, ρ, S, s0, w, E, h⟩
theorem rs_skip (h : tS T C m pin W .skip D σ H) : tNext D σ H := by
  obtain ⟨c0, He, me, c, ρ, S, s0, w, E, h⟩ := h
  unfold exT at h
  exact h c H σ s0 (Le.refl c) w E
theorem rs_seq (h : tS T C m pin W (.seq a b) D σ H) : tSeq (tS T C m pin W a) (tS T C m pin W b) D σ H := by
  obtain ⟨c0, He, me, c, ρ, S, s0, w, E, h⟩ := h
  unfold exT at h
  refine st_to s0 w E ?_
  cases q : exT T C a ρ S with
  | nx ρ1 S1 => rw [q] at h; exact fun c' H' σ' s l w E => st_to s w E (h.mono l)
  | bk ρ1 S1 => rw [q] at h; exact h
  | rt r S1 => rw [q] at h; exact h
  | exc k ds ρ1 S1 => rw [q] at h; exact h
  | bad => rw [q] at h; exact h
theorem rs_expr (h : tS T C m pin W (.expr e) D σ H) : tDrop (tI T C m pin W e) D σ H := by
  obtain ⟨c0, He, me, c, ρ, S, s0, w, E, h⟩ := h
  unfold exT at h
  refine tI_weak (st_e s0 w E h) ?_
  rintro v H1 ⟨c1, S1, r, s1, w1, x1, h⟩
  exact h c1 H1 σ (s0.trans s1) (Le.refl _) w1 (E.step s1)
theorem rs_asg (h : tS T C m pin W (.asg i e) D σ H) : tAsg (tI T C m pin W e) (gName i) D σ H := by
  obtain ⟨c0, He, me, c, ρ, S, s0, w, E, h⟩ := h
  unfold exT at h
  refine tI_weak (st_e s0 w E h) ?_
  rintro v H1 ⟨c1, S1, r, s1, w1, x1, h⟩
  cases hf : r.frz with
  | none => simp only [hf] at h; exact h.elim
  | some d =>
  simp only [hf] at h
  split at h
  · obtain ⟨c2, s2, w2, r2, l2⟩ := x1.frz w1 s1 hf
    exact h c2 H1 _ (s0.trans s2) l2 w2 ((E.step s2).set r2 i)
  · exact h.elim
theorem EnvR.setOwn {o : O} (E : EnvR m c H pin me He ρ σ) (ro : RO m c H p o) (g : c.G p = none) (n : p ∉ c.A) (f : He p = none) (hi : notIns o = true) (i : Nat)
    (hd : ∀ (j : Nat) (o' : O), ρ[j]? = some (.own o') → σ[j]? ≠ some (some (.ref p))) : EnvR m c H pin me He (ρ.set i (.own o)) (σ.set i (some (.ref p))) := by
  have hl := E.len
  have key : ∀ {j : Nat} {o' : O}, (ρ.set i (.own o))[j]? = some (.own o') → i ≠ j → ρ[j]? = some (.own o') := fun {j o'} e hj => by
    rw [List.getElem?_set_ne hj] at e
    exact e
  refine ⟨by simp [hl], fun j s e => ?_, fun j k o1 o2 q hn e1 e2 e3 e4 => ?_⟩
  · by_cases hj : i = j
    · subst hj
      obtain ⟨hlt, _⟩ := List.getElem?_eq_some_iff.mp e
      rw [List.length_set] at hlt
      rw [List.getElem?_set_self hlt] at e
      cases e
      rw [List.getElem?_set_self (by rw [← hl]; exact hlt)]
      exact .own ro g n f fun k ds z => by subst z; cases hi
    · rw [List.getElem?_set_ne hj] at e
      rw [List.getElem?_set_ne hj]
      exact E.at_ j s e
  · by_cases hj : i = j
    · subst hj
      by_cases hk : i = k
      · exact hn hk
      · have f2 := key e2 hk
        rw [List.getElem?_set_ne hk] at e4
        obtain ⟨hlt, _⟩ := List.getElem?_eq_some_iff.mp e1
        rw [List.length_set] at hlt
        rw [List.getElem?_set_self (by rw [← hl]; exact hlt)] at e3
        cases e3
        exact hd k o2 f2 e4
    · have f1 := key e1 hj
      rw [List.getElem?_set_ne hj] at e3
      by_cases hk : i = k
      · subst hk
        obtain ⟨hlt, _⟩ := List.getElem?_eq_some_iff.mp e2
        rw [List.length_set] at hlt
        rw [List.getElem?_set_self (by rw [← hl]; exact hlt)] at e4
        cases e4
        exact hd j o1 f1 e3
      · have f2 := key e2 hk
        rw [List.getElem?_set_ne hk] at e4
        exact E.nd j k o1 o2 q hn f1 f2 e3 e4
theorem rs_asgO (h : tS T C m pin W (.asgO i e) D σ H) : tAsg (tI T C m pin W e) (gName i) D σ H := by
  obtain ⟨c0, He, me, c, ρ, S, s0, w, E, h⟩ := h
  unfold exT at h
  refine tI_weak (st_e s0 w E h) ?_
  rintro v H1 ⟨c1, S1, r, s1, w1, x1, h⟩
  cases r with
  | val _ => exact h.elim
  | tmp _ => exact h.elim
  | own o =>
  simp only at h
  split at h
  · rename_i hc
    simp only [Bool.and_eq_true] at hc
    cases x1 with
    | own ro g n f =>
    rename_i p
    refine h c1 H1 _ (s0.trans s1) (Le.refl _) w1 ((E.step s1).setOwn ro g n (s0.dom _ f) hc.1.2 i fun j o' e1 e2 => ?_)
    have hs := E.at_ j _ e1
    rw [e2] at hs
    cases hs with
    | own ro' _ _ _ _ =>
      obtain ⟨u, hu⟩ := ro'.some
      rw [f] at hu
      cases hu
  · exact h.elim
theorem setAll_gTgs {us : List V} {is : List Nat} {Q : St → Hp → Prop} (h : us.length = is.length) (q : Q (setAll σ is us) H) : gTgs is us σ H Q := gTgs_of h q
/-- names for a tuple's or a list's items -/
def gTg2 (K : PySem.W.Frag) (is : List Nat) : TG := fun v σ H Q => gTup K is.length (gTgs is) v σ H Q ∨ gLst K is.length (gTgs is) v σ H Q
theorem pg_two {X : Cx} {es : List Expr} {k : Nat} {p : Pos} {is : List Nat} (hc : X.calm = true) (h : PGs X es (gTgs is)) (hn : (assignEach es X.env).length = is.length) (hst : (assignEach es X.env).findIdx? (·.1) = none) : PG X (.Tuple es k p) (gTg2 X.K is) :=
  ⟨fun pins s σ H v u Q I r hw => hw.elim (fun z => (pg_tup hc h hn hst).run pins s σ H v u Q I r z) fun z => (pg_lst hc h hn hst).run pins s σ H v u Q I r z⟩
theorem rs_tupl {is : List Nat} (h : tS T C m pin W (.tupl is e) D σ H) : tAsg (tI T C m pin W e) (gTg2 m.K is) D σ H := by
  obtain ⟨c0, He, me, c, ρ, S, s0, w, E, h⟩ := h
  unfold exT at h
  refine tI_weak (st_e s0 w E h) ?_
  rintro v H1 ⟨c1, S1, r, s1, w1, x1, h⟩
  cases hf : r.frz with
  | none => simp only [hf] at h; exact h.elim
  | some d =>
  simp only [hf] at h
  cases d with
  | tup xs =>
    simp only at h
    split at h
    · rename_i hc
      simp only [Bool.and_eq_true, beq_iff_eq] at hc
      obtain ⟨c2, s2, w2, r2, l2⟩ := x1.frz w1 s1 hf
      cases r2 with
      | tup h1 h2 =>
      rename_i p vs
      have l : vs.length = is.length := by rw [h2.length, hc.2]
      exact .inl ⟨p, vs, rfl, sqT_mono w2.le h1, l, gTgs_of l (h c2 H1 _ (s0.trans s2) l2 w2 ((E.step s2).setAll h2))⟩
    · exact h.elim
  | lst xs =>
    simp only at h
    split at h
    · rename_i hc
      simp only [Bool.and_eq_true, beq_iff_eq] at hc
      obtain ⟨c2, s2, w2, r2, l2⟩ := x1.frz w1 s1 hf
      cases r2 with
      | lst h1 h2 =>
      rename_i p vs
      have l : vs.length = is.length := by rw [h2.length, hc.2]
      exact .inr ⟨p, vs, rfl, SqL.of (w2.le _ _ h1), l, gTgs_of l (h c2 H1 _ (s0.trans s2) l2 w2 ((E.step s2).setAll h2))⟩
    · exact h.elim
  | _ => exact h.elim
/-- parallel stores: what the values do -/
theorem rs_par {is : List Nat} (h : tS T C m pin W (.par is es) D σ H) : tL T C m pin W es σ H (fun vs H1 => vs.length = is.length ∧ (∀ p, H1 p = none → D.nx (setAll σ is vs) (upd H1 p (.tup vs))) ∧ D.nx (setAll σ is vs) H1) := by
  obtain ⟨c0, He, me, c, ρ, S, s0, w, E, h⟩ := h
  unfold exT at h
  obtain ⟨c', ρ', S', me', He', E', w', z⟩ := st_es s0 w E h
  refine ⟨c', ρ', S', me', He', E', w', ?_⟩
  cases q : evL T C es ρ' S' with
  | bad => rw [q] at z; exact z
  | exc _ _ _ => rw [q] at z; exact z
  | ok ds S1 =>
  rw [q] at z
  intro c2 H2 vs s2 w2 x2
  obtain ⟨c1, S1, ds, s1, w1, r1, h⟩ := z c2 H2 vs s2 w2 x2
  split at h
  · rename_i hc
    simp only [Bool.and_eq_true, beq_iff_eq] at hc
    have E2 := (E.step s1).setAll (is := is) r1
    refine ⟨by rw [r1.length, hc.2], fun p hp => ?_, h c1 H2 _ (s0.trans s1) (Le.refl _) w1 E2⟩
    obtain ⟨s3, w3⟩ := step_new (o := .tup vs) w1 hp
    exact h c1 _ _ ((s0.trans s1).trans s3) (Le.refl _) w3 (E2.step s3)
  · exact h.elim
/-! several stores at once, some of own objects -/
def ownA : List V → List Sl → List Addr
  | v :: vs, s :: ss => match v, s with
    | .ref p, .own _ => p :: ownA vs ss
    | _, _ => ownA vs ss
  | _, _ => []
inductive RMs (m : Pm) (c : Cfg) (H H₀ : Hp) : List V → List Sl → Prop
  | nil : RMs m c H H₀ [] []
  | val {v : V} {d : R.D} {vs : List V} {ss : List Sl} : RD m c v d → RMs m c H H₀ vs ss → RMs m c H H₀ (v :: vs) (.val d :: ss)
  | own {p : Addr} {o : O} {vs : List V} {ss : List Sl} : RO m c H p o → c.G p = none → p ∉ c.A → H₀ p = none → notIns o = true → p ∉ ownA vs ss → RMs m c H H₀ vs ss → RMs m c H H₀ (.ref p :: vs) (.own o :: ss)
theorem RMs.length {H₀ : Hp} : ∀ {vs : List V} {ss : List Sl}, RMs m c H H₀ vs ss → vs.length = ss.length
  | _, _, .nil => rfl
  | _, _, .val _ h => by rw [List.length_cons, List.length_cons, h.length]
  | _, _, .own _ _ _ _ _ _ h => by rw [List.length_cons, List.length_cons, h.length]
theorem RMs.new {H₀ : Hp} : ∀ {vs : List V} {ss : List Sl}, RMs m c H H₀ vs ss → ∀ p ∈ ownA vs ss, H₀ p = none
  | _, _, .nil, p, hp => by cases hp
  | v :: vs, .val d :: ss, .val _ h, p, hp => by
    have e : ownA (v :: vs) (.val d :: ss) = ownA vs ss := by cases v <;> rfl
    rw [e] at hp
    exact h.new p hp
  | _, _, .own _ _ _ h4 _ _ h, p, hp => by
    rcases List.mem_cons.mp hp with rfl | hp
    · exact h4
    · exact h.new p hp
theorem RMs.back {H₀ H₁ : Hp} (dom : ∀ p, H₁ p = none → H₀ p = none) : ∀ {vs : List V} {ss : List Sl}, RMs m c H H₁ vs ss → RMs m c H H₀ vs ss
  | _, _, .nil => .nil
  | _, _, .val r h => .val r (h.back dom)
  | _, _, .own a b d e f g h => .own a b d (dom _ e) f g (h.back dom)
theorem RMs.laid {H₀ : Hp} {p : Addr} {u : HO} (hp : H p = none) : ∀ {vs : List V} {ss : List Sl}, RMs m c H H₀ vs ss → RMs m c (upd H p u) H₀ vs ss
  | _, _, .nil => .nil
  | _, _, .val r h => .val r (h.laid hp)
  | _, _, .own a b d e f g h => .own (a.upd fun z => by obtain ⟨y, hy⟩ := a.some; rw [z, hp] at hy; cases hy) b d e f g (h.laid hp)
theorem EnvR.putM {H₀ : Hp} (hH : ∀ p, H₀ p = none → He p = none) : ∀ {is : List Nat} {vs : List V} {ss : List Sl} {ρ : REnv} {σ : St}, EnvR m c H pin me He ρ σ → RMs m c H H₀ vs ss → (∀ (j : Nat) (o' : O) (p : Addr), ρ[j]? = some (.own o') → σ[j]? = some (some (.ref p)) → p ∉ ownA vs ss) →
    EnvR m c H pin me He (R.putM ρ is ss) (R.setAll σ is vs)
  | [], _, _, _, _, E, h, _ => by
    cases h <;> exact E
  | i :: is, _, _, _, _, E, .nil, _ => E
  | i :: is, v :: vs, .val d :: ss, ρ, σ, E, .val r h, far => by
    have e : ownA (v :: vs) (.val d :: ss) = ownA vs ss := by cases v <;> rfl
    rw [e] at far
    refine EnvR.putM hH (is := is) (E.set r i) h fun j o' p e1 e2 => ?_
    by_cases hj : i = j
    · subst hj
      obtain ⟨hlt, _⟩ := List.getElem?_eq_some_iff.mp e1
      rw [List.length_set] at hlt
      rw [List.getElem?_set_self hlt] at e1
      cases e1
    · rw [List.getElem?_set_ne hj] at e1 e2
      exact far j o' p e1 e2
  | i :: is, _, _, ρ, σ, E, .own (p := q) (o := o) (vs := vs) (ss := ss) a b d e f g h, far => by
    refine EnvR.putM hH (is := is) (E.setOwn a b d (hH _ e) f i fun j o' e1 e2 => far j o' q e1 e2 List.mem_cons_self) h fun j o' p e1 e2 => ?_
    by_cases hj : i = j
    · subst hj
      obtain ⟨hlt, _⟩ := List.getElem?_eq_some_iff.mp e1
      rw [List.length_set] at hlt
      rw [List.getElem?_set_self (by rw [← E.len]; exact hlt)] at e2
      cases e2
      exact g
    · rw [List.getElem?_set_ne hj] at e1 e2
      exact fun hm => far j o' p e1 e2 (List.mem_cons_of_mem _ hm)
def PostM (m : Pm) (W : WX) (c : Cfg) (H : Hp) (σ : St) (out : Out (List Sl)) (Q : List V → Hp → Prop) : Prop := match out with
  | .ok ss S => ∀ c' H' vs, Step c H c' H' → Wd m c' H' S → RMs m c' H' H vs ss → Q vs H'
  | .exc k ds S => ∀ c' H' cls d, Step c H c' H' → Wd m c' H' S → ExR m c' cls d k ds → W cls d σ H'
  | .bad => False
def tM (T : Tab) (C : Calls) (m : Pm) (pin : Pin) (W : WX) (es : Es) (bs : List Bool) : TA := fun σ H Q => ∃ c ρ S me He, EnvR m c H pin me He ρ σ ∧ Wd m c H S ∧ PostM m W c H σ (evM T C es bs ρ S) Q
theorem rm_nil {Q : List V → Hp → Prop} (h : tM T C m pin W .nil [] σ H Q) : tNil σ H Q := by
  obtain ⟨c, ρ, S, me, He, E, w, h⟩ := h
  exact h c H [] (Step.refl c H) w .nil
theorem rm_cons {e : E} {es : Es} {b : Bool} {bs : List Bool} {Q : List V → Hp → Prop} (h : tM T C m pin W (.cons e es) (b :: bs) σ H Q) : tCons (tI T C m pin W e) (tM T C m pin W es bs) σ H Q := by
  obtain ⟨c, ρ, S, me, He, E, w, h⟩ := h
  unfold evM at h
  refine ⟨c, ρ, S, me, He, E, w, ?_⟩
  cases q : evE T C e ρ S with
  | bad => rw [q] at h; exact h
  | exc k ds S1 =>
    rw [q] at h
    exact fun c' H' cls d s w x => h c' H' cls d s w x
  | ok r S1 =>
  rw [q, Out.bind_ok] at h
  intro c1 H1 v s1 w1 x1
  -- the rest, out of a place where the head is known
  have go : ∀ {sl : Sl} {c2 : Cfg}, Step c H c2 H1 → Wd m c2 H1 S1 → PostM m W c H σ ((evM T C es bs ρ S1).bind fun ss S2 => .ok (sl :: ss) S2) Q →
      (∀ c3 H3 vs ss, Step c2 H1 c3 H3 → RMs m c3 H3 H1 vs ss → RMs m c3 H3 H (v :: vs) (sl :: ss)) → tM T C m pin W es bs σ H1 fun vs H3 => Q (v :: vs) H3 := fun {sl c2} s2 w2 h k => by
    refine ⟨c2, ρ, S1, me, He, E.step s2, w2, ?_⟩
    cases q2 : evM T C es bs ρ S1 with
    | bad => rw [q2] at h; exact h
    | exc k ds S2 =>
      rw [q2] at h
      exact fun c' H' cls d s w x => h c' H' cls d (s2.trans s) w x
    | ok ss S2 =>
      rw [q2] at h
      exact fun c3 H3 vs s3 w3 x3 => h c3 H3 _ (s2.trans s3) w3 (k c3 H3 vs ss s3 x3)
  have vals : ∀ {d : R.D}, r.frz = some d → PostM m W c H σ ((evM T C es bs ρ S1).bind fun ss S2 => .ok (.val d :: ss) S2) Q → tM T C m pin W es bs σ H1 fun vs H3 => Q (v :: vs) H3 := fun {d} hf h => by
    obtain ⟨c2, s2, w2, r2, l2⟩ := x1.frz w1 s1 hf
    exact go s2 w2 h fun c3 H3 vs ss s3 x3 => .val (r2.le s3.le) (x3.back s1.dom)
  cases b with
  | false =>
    cases hf : r.frz with
    | none => simp only [hf] at h; exact h.elim
    | some d =>
      simp only [hf] at h
      exact vals hf h
  | true =>
    cases r with
    | val _ => exact h.elim
    | tmp _ => exact h.elim
    | own o =>
      simp only at h
      split at h
      · rename_i hi
        refine go s1 w1 h fun c3 H3 vs ss s3 x3 => ?_
        cases x1 with
        | own a b d f =>
          rename_i p
          obtain ⟨u, hu⟩ := a.some
          obtain ⟨g3, n3⟩ := s3.off hu b d
          refine .own (a.mono s3 d) g3 n3 f hi (fun hm => ?_) (x3.back s1.dom)
          have := x3.new p hm
          rw [hu] at this
          cases this
      · exact h.elim
theorem st_em {es : Es} {bs : List Bool} {f : List Sl → Store → OutS} (s0 : Step c0 He c H) (w : Wd m c H S) (E : EnvR m c H pin me He ρ σ) (h : PostS m W c0 He me pin c ((evM T C es bs ρ S).thn ρ f) D) :
    tM T C m pin W es bs σ H (fun vs H1 => ∃ c1 S1 ss, Step c H c1 H1 ∧ Wd m c1 H1 S1 ∧ RMs m c1 H1 H vs ss ∧ EnvR m c H pin me He ρ σ ∧ PostS m W c0 He me pin c1 (f ss S1) D) := by
  refine ⟨c, ρ, S, me, He, E, w, ?_⟩
  cases q : evM T C es bs ρ S with
  | ok r S1 =>
    rw [q] at h
    exact fun c' H' v st w' x => ⟨c', S1, r, st, w', x, E, h.mono st.le⟩
  | exc k ds S1 =>
    rw [q] at h
    exact fun c' H' cls d st w' x => h c' H' σ cls d (s0.trans st) st.le w' (E.step st) x
  | bad =>
    rw [q] at h
    exact h
theorem rs_parM {is : List (Nat × Bool)} (h : tS T C m pin W (.parM is es) D σ H) : tM T C m pin W es (is.map (·.2)) σ H (fun vs H1 => vs.length = is.length ∧ (∀ p, H1 p = none → D.nx (setAll σ (is.map (·.1)) vs) (upd H1 p (.tup vs))) ∧ D.nx (setAll σ (is.map (·.1)) vs) H1) := by
  obtain ⟨c0, He, me, c, ρ, S, s0, w, E, h⟩ := h
  unfold exT at h
  obtain ⟨c', ρ', S', me', He', E', w', z⟩ := st_em s0 w E h
  refine ⟨c', ρ', S', me', He', E', w', ?_⟩
  cases q : evM T C es (is.map (·.2)) ρ' S' with
  | bad => rw [q] at z; exact z
  | exc _ _ _ => rw [q] at z; exact z
  | ok ds S1 =>
  rw [q] at z
  intro c2 H2 vs s2 w2 x2
  obtain ⟨c1, S1, ss, s1, w1, r1, E0, h⟩ := z c2 H2 vs s2 w2 x2
  split at h
  · rename_i hc
    simp only [Bool.and_eq_true, beq_iff_eq] at hc
    have hl : ss.length = is.length := hc.2
    have far : ∀ (j : Nat) (o' : O) (p : Addr), ρ[j]? = some (.own o') → σ[j]? = some (some (.ref p)) → p ∉ ownA vs ss := fun j o' p e1 e2 hm => by
      have hs := E0.at_ j _ e1
      rw [e2] at hs
      cases hs with
      | own ro _ _ _ _ =>
        obtain ⟨u, hu⟩ := ro.some
        have := r1.new p hm
        rw [hu] at this
        cases this
    have E2 := EnvR.putM (is := is.map (·.1)) (fun p hp => s0.dom p hp) (E.step s1) r1 far
    refine ⟨by rw [r1.length, hl], fun p hp => ?_, h c1 H2 _ (s0.trans s1) (Le.refl _) w1 E2⟩
    obtain ⟨s3, w3⟩ := step_new (o := .tup vs) w1 hp
    exact h c1 _ _ ((s0.trans s1).trans s3) (Le.refl _) w3 (E2.step s3)
  · exact h.elim
/-- an own object that changes -/
theorem own_mut {u : HO} {o o' : O} (s : Step c0 He c H) (w : Wd m c H S) (E : EnvR m c H pin me He ρ σ) (hi : ρ[i]? = some (.own o)) (hv : σ[i]? = some (some (.ref p)))
    (hr : RO m c (upd H p u) p o') (hI : ∀ k ds, o' = .ins k ds → ∃ k' ds', o = .ins k' ds') : Step c0 He c (upd H p u) ∧ Wd m c (upd H p u) S ∧ EnvR m c (upd H p u) pin me He (ρ.set i (.own o')) σ := by
  have hs := E.at_ i _ hi
  rw [hv] at hs
  cases hs with
  | own ro g n f hme =>
  obtain ⟨s2, w2⟩ := step_mut (o := u) s w f g n
  refine ⟨s2, w2, ⟨by simp [E.len], fun j sl e => ?_, fun j k o1 o2 q hn e1 e2 e3 e4 => ?_⟩⟩
  · by_cases hj : i = j
    · subst hj
      obtain ⟨hlt, _⟩ := List.getElem?_eq_some_iff.mp e
      rw [List.length_set] at hlt
      rw [List.getElem?_set_self hlt] at e
      cases e
      rw [hv]
      refine .own hr g n f fun k ds z => ?_
      obtain ⟨k', ds', z'⟩ := hI k ds z
      exact hme k' ds' z'
    · rw [List.getElem?_set_ne hj] at e
      have hs := E.at_ j sl e
      generalize hx : σ[j]? = x at hs
      cases hs with
      | un => exact .un
      | val h => exact .val h
      | exc h1 h2 => exact .exc h1 h2
      | own h1 h2 h3 h4 h5 =>
        rename_i q ob
        have ne : q ≠ p := fun z => by
          subst z
          exact E.nd i j o ob q hj hi e hv hx
        exact .own (h1.upd ne) h2 h3 h4 h5
  · have key : ∀ {j : Nat} {o1 : O}, (ρ.set i (.own o'))[j]? = some (.own o1) → ∃ o2, ρ[j]? = some (.own o2) := fun {j o1} e => by
      by_cases hj : i = j
      · subst hj
        exact ⟨o, hi⟩
      · rw [List.getElem?_set_ne hj] at e
        exact ⟨o1, e⟩
    obtain ⟨p1, f1⟩ := key e1
    obtain ⟨p2, f2⟩ := key e2
    exact E.nd j k p1 p2 q hn f1 f2 e3 e4
/-- an object of the store that changes -/
theorem obj_mut {u : HO} {n : Nat} {ob' : O} (s : Step c0 He c H) (w : Wd m c H S) (E : EnvR m c H pin me He ρ σ) (ha : c.A[n]? = some p) (hr : RO m c (upd H p u) p ob') :
    Step c0 He c (upd H p u) ∧ Wd m c (upd H p u) (S.set n ob') ∧ EnvR m c (upd H p u) pin me He ρ σ := by
  have hm : p ∈ c.A := List.mem_of_getElem? ha
  have g := w.off p hm
  obtain ⟨u0, hu0⟩ := w.there hm
  refine ⟨⟨s.G, s.A, fun q o hq hn => ?_, s.fresh, fun q hq => ?_⟩, ⟨fun q o hq => ?_, by rw [List.length_set]; exact w.len, fun k a ob h1 h2 => ?_, w.off, w.nd⟩, ⟨E.len, fun j sl e => ?_, E.nd⟩⟩
  · have ne : q ≠ p := fun z => by
      subst z
      obtain ⟨mo, e, f⟩ := s.A
      rw [e] at hm
      rcases List.mem_append.mp hm with hm | hm
      · exact hn hm
      · rw [f q hm] at hq; cases hq
    rw [upd_ne ne]; exact s.frame q o hq hn
  · by_cases e : q = p
    · subst e; rw [upd_same] at hq; cases hq
    · rw [upd_ne e] at hq; exact s.dom q hq
  · rw [upd_ne (fun e : q = p => by rw [e, g] at hq; cases hq)]; exact w.le _ _ hq
  · by_cases hk : n = k
    · subst hk
      rw [ha] at h1; cases h1
      obtain ⟨hlt, _⟩ := List.getElem?_eq_some_iff.mp h2
      rw [List.length_set] at hlt
      rw [List.getElem?_set_self hlt] at h2
      cases h2
      exact hr
    · rw [List.getElem?_set_ne hk] at h2
      refine (w.obj k a ob h1 h2).upd fun z => ?_
      subst z
      obtain ⟨l1, e1⟩ := List.getElem?_eq_some_iff.mp ha
      obtain ⟨l2, e2⟩ := List.getElem?_eq_some_iff.mp h1
      exact hk ((List.getElem_inj w.nd).mp (e1.trans e2.symm))
  · have hs := E.at_ j sl e
    generalize σ[j]? = x at hs ⊢
    cases hs with
    | un => exact .un
    | val h => exact .val h
    | exc h1 h2 => exact .exc h1 h2
    | own h1 h2 h3 h4 h5 => exact .own (h1.upd fun z => h3 (z ▸ hm)) h2 h3 h4 h5
theorem rs_ite {cc : E} (h : tS T C m pin W (.ite cc a b) D σ H) : tIfS (tT T C m pin W cc) (tS T C m pin W a) (tS T C m pin W b) D σ H := by
  obtain ⟨c0, He, me, c, ρ, S, s0, w, E, h⟩ := h
  unfold exT at h
  refine tI_weak (st_e s0 w E h) ?_
  rintro v H1 ⟨c1, S1, r, s1, w1, x1, h⟩
  split at h
  · exact ⟨_, bl_of x1, iteT (st_to (s0.trans s1) w1 (E.step s1) h)⟩
  · exact ⟨_, bl_of x1, iteF (st_to (s0.trans s1) w1 (E.step s1) h)⟩
  · exact h.elim
theorem rs_ret (h : tS T C m pin W (.ret e) D σ H) : tRet (tI T C m pin W e) D σ H := by
  obtain ⟨c0, He, me, c, ρ, S, s0, w, E, h⟩ := h
  unfold exT at h
  refine tI_weak (st_e s0 w E h) ?_
  rintro v H1 ⟨c1, S1, r, s1, w1, x1, h⟩
  cases r with
  | tmp _ => exact h.elim
  | val d => exact h c1 H1 v (s0.trans s1) (Le.refl _) w1 (x1.back s0.dom)
  | own o => exact h c1 H1 v (s0.trans s1) (Le.refl _) w1 (x1.back s0.dom)
theorem rs_retO (h : tS T C m pin W (.retO i) D σ H) : tRet (tVar i) D σ H := by
  obtain ⟨c0, He, me, c, ρ, S, s0, w, E, h⟩ := h
  unfold exT at h
  cases q : ρ[i]? with
  | none => rw [q] at h; exact h.elim
  | some s =>
    rw [q] at h
    have hs := E.at_ i s q
    cases s with
    | own o =>
      cases hs' : σ[i]? with
      | none => rw [hs'] at hs; cases hs
      | some x =>
        rw [hs'] at hs
        cases hs with
        | own ro g n f _ => exact ⟨_, hs', h c H _ s0 (Le.refl _) w (.own ro g n f)⟩
    | _ => exact h.elim
theorem rs_retN (h : tS T C m pin W .retN D σ H) : tRetN D σ H := by
  obtain ⟨c0, He, me, c, ρ, S, s0, w, E, h⟩ := h
  unfold exT at h
  exact h c H .non s0 (Le.refl _) w (.val .non)
theorem rs_brk (h : tS T C m pin W .brk D σ H) : tBreak D σ H := by
  obtain ⟨c0, He, me, c, ρ, S, s0, w, E, h⟩ := h
  unfold exT at h
  exact h c H σ s0 (Le.refl _) w E
theorem rs_dead (h : tS T C m pin W .dead D σ H) : False := by
  obtain ⟨c0, He, me, c, ρ, S, s0, w, E, h⟩ := h
  unfold exT at h
  exact h
end
end R

set_option maxHeartbeats 2000000
/-! The readings of the statements that change something, of the loops, of try. -/
namespace R
open PySem L2
section
variable {T : Tab} {C : Calls} {m : Pm} {pin : Pin} {W : WX} {σ : St} {H He : Hp} {D : Ends} {c0 c c1 : Cfg} {me p : Addr} {ρ : REnv} {S : Store} {out : OutS} {e o : E} {es : Es} {t a b : R.T} {i : Nat}
theorem setO_of {ob ob' : O} {k d : R.D} (h : setO ob k d = some ob') : (∃ xs z j, ob = .lst xs ∧ k = .int z ∧ L2.ixN xs.length z = some j ∧ ob' = .lst (xs.set j d)) ∨
    ∃ kvs κ, ob = .dct kvs ∧ keyOf k = some κ ∧ kvs.length < lim ∧ ob' = .dct (putD kvs κ k d) := by
  unfold setO at h
  split at h
  · obtain ⟨j, hk, e2⟩ := Option.map_eq_some_iff.mp h
    exact .inl ⟨_, _, j, rfl, rfl, hk, e2.symm⟩
  · obtain ⟨κ, hk, e2⟩ := Option.bind_eq_some_iff.mp h
    split at e2
    · rename_i hl
      cases e2
      exact .inr ⟨_, κ, rfl, hk, hl, rfl⟩
    · cases e2
  · cases h
def rSet2 (m : Pm) : TSet := fun o i v H Q => rSetL o i v H Q ∨ rDSet m o i v H Q
theorem set_two {X : Cx} {tb : Tb} (hu : X.A.units + 64 < cLine) : PSet X (rSet2 (mX X tb)) := by
  intro pins s σ H o i v ov iv u Q I ro ri rv h
  rcases h with h | h
  · exact set_list pins s σ H o i v ov iv u Q I ro ri rv h
  · exact set_dKey (tb := tb) hu pins s σ H o i v ov iv u Q I ro ri rv h
theorem rs_setI {ix : E} (h : tS T C m pin W (.setI o ix e) D σ H) : tAsg (tI T C m pin W e) (gSub (tI T C m pin W o) (tI T C m pin W ix) (rSet2 m)) D σ H := by
  obtain ⟨c0, He, me, c, ρ, S, s0, w, E, h⟩ := h
  unfold exT at h
  refine tI_weak (st_e s0 w E h) ?_
  rintro v H1 ⟨c1, S1, r, s1, w1, x1, h⟩
  cases hf : r.frz with
  | none => simp only [hf] at h; exact h.elim
  | some d =>
  simp only [hf] at h
  obtain ⟨c2, s2, w2, r2, l2⟩ := x1.frz w1 s1 hf
  have E2 := E.step s2
  refine tI_weak (st_e (s0.trans s2) w2 E2 (h.mono l2)) ?_
  rintro vo H2 ⟨c3, S3, ro, s3, w3, x3, h⟩
  have E3 := E2.step s3
  refine tI_weak (st_e ((s0.trans s2).trans s3) w3 E3 h) ?_
  rintro vi H3 ⟨c4, S4, ri, s4, w4, x4, h⟩
  have E4 := E3.step s4
  have x3' := x3.mono s4
  cases ro with
  | own _ => exact h.elim
  | tmp _ => exact h.elim
  | val dob =>
  cases ri with
  | own _ => cases dob <;> exact h.elim
  | tmp _ => cases dob <;> exact h.elim
  | val dk =>
  cases dob with
  | obj n =>
    simp only at h
    cases hob : S4[n]? with
    | none => simp only [hob] at h; exact h.elim
    | some ob =>
    simp only [hob] at h
    cases hset : setO ob dk d with
    | none => simp only [hset] at h; exact h.elim
    | some ob' =>
    simp only [hset] at h
    cases x3' with
    | val x3' =>
    cases x3' with
    | obj ha =>
    rename_i a
    have hro := w4.obj n a ob ha hob
    have r4 := r2.le (s3.le.trans s4.le)
    rcases setO_of hset with ⟨xs, z, k, rfl, rfl, hk, rfl⟩ | ⟨kvs, κ, rfl, hk, hl, rfl⟩
    · cases hro with
      | lst hH rs =>
      rename_i vs
      cases x4 with
      | val x4 =>
      cases x4
      refine .inl ⟨a, vs, z, k, rfl, rfl, hH, by rw [rs.length]; exact hk, ?_⟩
      obtain ⟨s5, w5, E5⟩ := obj_mut (u := .lst (vs.set k v)) (ob' := .lst (xs.set k d)) (((s0.trans s2).trans s3).trans s4) w4 E4 ha (.lst upd_same (rs.set k r4))
      exact h c4 _ σ s5 (Le.refl _) w5 E5
    · cases hro with
      | dct hH rs =>
      cases x4 with
      | val x4 =>
      refine .inr ⟨c4, S4, a, _, kvs, dk, κ, d, rfl, w4, hH, rs, x4, hk, r4, lim_lt hl, fun es' re => ?_⟩
      obtain ⟨s5, w5, E5⟩ := obj_mut (u := dHO m a es') (ob' := .dct (putD kvs κ dk d)) (((s0.trans s2).trans s3).trans s4) w4 E4 ha (.dct upd_same re)
      exact h c4 _ σ s5 (Le.refl _) w5 E5
  | _ => exact h.elim
/-- a slot that holds an own object -/
theorem EnvR.own_at {ob : O} (E : EnvR m c H pin me He ρ σ) (h : ρ[i]? = some (.own ob)) : ∃ p, σ[i]? = some (some (.ref p)) ∧ RO m c H p ob ∧ c.G p = none ∧ p ∉ c.A ∧ He p = none := by
  have hs := E.at_ i _ h
  cases hs' : σ[i]? with
  | none => rw [hs'] at hs; cases hs
  | some y =>
    rw [hs'] at hs
    cases hs with
    | own ro g n f _ => exact ⟨_, rfl, ro, g, n, f⟩
theorem rs_setIO {s : Nat} {ix : E} (h : tS T C m pin W (.setIO s ix e) D σ H) : tAsg (tI T C m pin W e) (gSub (tVar s) (tI T C m pin W ix) (rSet2 m)) D σ H := by
  obtain ⟨c0, He, me, c, ρ, S, s0, w, E, h⟩ := h
  unfold exT at h
  refine tI_weak (st_e s0 w E h) ?_
  rintro v H1 ⟨c1, S1, r, s1, w1, x1, h⟩
  cases hf : r.frz with
  | none => simp only [hf] at h; exact h.elim
  | some d =>
  simp only [hf] at h
  obtain ⟨c2, s2, w2, r2, l2⟩ := x1.frz w1 s1 hf
  have E2 := E.step s2
  have h := h.mono l2
  split at h
  · rename_i ob hob
    obtain ⟨p, hs', _⟩ := E2.own_at hob
    refine ⟨_, hs', tI_weak (st_e (s0.trans s2) w2 E2 h) ?_⟩
    rintro vi H3 ⟨c4, S4, ri, s4, w4, x4, h⟩
    have E4 := E2.step s4
    cases ri with
    | own _ => exact h.elim
    | tmp _ => exact h.elim
    | val dk =>
    simp only at h
    cases hset : setO ob dk d with
    | none => simp only [hset] at h; exact h.elim
    | some ob' =>
    simp only [hset] at h
    obtain ⟨p', hs4, ro4, _⟩ := E4.own_at hob
    rw [hs'] at hs4
    cases hs4
    have r4 := r2.le s4.le
    rcases setO_of hset with ⟨xs, z, k, rfl, rfl, hk, rfl⟩ | ⟨kvs, κ, rfl, hk, hl, rfl⟩
    · cases ro4 with
      | lst hH rs =>
      rename_i vs
      cases x4 with
      | val x4 =>
      cases x4
      refine .inl ⟨p, vs, z, k, rfl, rfl, hH, by rw [rs.length]; exact hk, ?_⟩
      obtain ⟨s5, w5, E5⟩ := own_mut (u := .lst (vs.set k v)) (o' := .lst (xs.set k d)) ((s0.trans s2).trans s4) w4 E4 hob hs' (.lst upd_same (rs.set k r4)) (fun _ _ z => by cases z)
      exact h c4 _ σ s5 (Le.refl _) w5 E5
    · cases ro4 with
      | dct hH rs =>
      cases x4 with
      | val x4 =>
      refine .inr ⟨c4, S4, p, _, kvs, dk, κ, d, rfl, w4, hH, rs, x4, hk, r4, lim_lt hl, fun es' re => ?_⟩
      obtain ⟨s5, w5, E5⟩ := own_mut (u := dHO m p es') (o' := .dct (putD kvs κ dk d)) ((s0.trans s2).trans s4) w4 E4 hob hs' (.dct upd_same re) (fun _ _ z => by cases z)
      exact h c4 _ σ s5 (Le.refl _) w5 E5
  · exact h.elim
theorem rs_app (h : tS T C m pin W (.app o e) D σ H) : tDrop (tBM m.K "list" rAppend (tI T C m pin W o) (tCons (tI T C m pin W e) tNil)) D σ H := by
  obtain ⟨c0, He, me, c, ρ, S, s0, w, E, h⟩ := h
  unfold exT at h
  refine tI_weak (st_e s0 w E h) ?_
  rintro vo H1 ⟨c1, S1, ro, s1, w1, x1, h⟩
  have E1 := E.step s1
  split at h
  · rename_i n
    cases x1 with
    | val x1 =>
    cases x1 with
    | obj ha =>
    rename_i a
    split at h
    · rename_i ys hob1
      have hro1 := w1.obj n a _ ha hob1
      refine ⟨?_, tI_weak (st_e (s0.trans s1) w1 E1 h) ?_⟩
      · cases hro1 with
        | lst hH rs => exact .inl ⟨rfl, _, SqL.of hH⟩
      rintro v H2 ⟨c2, S2, r, s2, w2, x2, h⟩
      cases hf : r.frz with
      | none => simp only [hf] at h; exact h.elim
      | some d =>
      simp only [hf] at h
      obtain ⟨c3, s3, w3, r3, l3⟩ := x2.frz w2 s2 hf
      have E3 := E1.step s3
      cases hob2 : S2[n]? with
      | none => simp only [hob2] at h; exact h.elim
      | some ob =>
      simp only [hob2] at h
      cases ob with
      | lst xs =>
        simp only at h
        split at h
        · rename_i hl
          have ha3 : c3.A[n]? = some a := by
            obtain ⟨mo, e, _⟩ := s3.A
            rw [e, List.getElem?_append_left (List.getElem?_eq_some_iff.mp ha).1]
            exact ha
          have hro := w3.obj n a _ ha3 hob2
          cases hro with
          | lst hH rs =>
          rename_i vs
          refine ⟨a, vs, v, rfl, rfl, hH, by rw [rs.length]; exact lim_lt hl, ?_⟩
          obtain ⟨s5, w5, E5⟩ := obj_mut (u := .lst (vs ++ [v])) (ob' := .lst (xs ++ [d])) ((s0.trans s1).trans s3) w3 E3 ha3 (.lst upd_same (rs.append (.cons r3 .nil)))
          exact h c3 _ σ s5 l3 w5 E5
        · exact h.elim
      | _ => exact h.elim
    · exact h.elim
  · exact h.elim
theorem rs_appO {s : Nat} (h : tS T C m pin W (.appO s e) D σ H) : tDrop (tBM m.K "list" rAppend (tVar s) (tCons (tI T C m pin W e) tNil)) D σ H := by
  obtain ⟨c0, He, me, c, ρ, S, s0, w, E, h⟩ := h
  unfold exT at h
  split at h
  · rename_i xs hob
    obtain ⟨p, hs', ro, g, n, f⟩ := E.own_at hob
    refine ⟨_, hs', ?_, tI_weak (st_e s0 w E h) ?_⟩
    · cases ro with
      | lst hH rs => exact .inl ⟨rfl, _, SqL.of hH⟩
    rintro v H2 ⟨c2, S2, r, s2, w2, x2, h⟩
    cases hf : r.frz with
    | none => simp only [hf] at h; exact h.elim
    | some d =>
    simp only [hf] at h
    obtain ⟨c3, s3, w3, r3, l3⟩ := x2.frz w2 s2 hf
    have E3 := E.step s3
    split at h
    · rename_i hl
      obtain ⟨p', hs4, ro4, _⟩ := E3.own_at hob
      rw [hs'] at hs4
      cases hs4
      cases ro4 with
      | lst hH rs =>
      rename_i vs
      refine ⟨p, vs, v, rfl, rfl, hH, by rw [rs.length]; exact lim_lt hl, ?_⟩
      obtain ⟨s5, w5, E5⟩ := own_mut (u := .lst (vs ++ [v])) (o' := .lst (xs ++ [d])) (s0.trans s3) w3 E3 hob hs' (.lst upd_same (rs.append (.cons r3 .nil))) (fun _ _ z => by cases z)
      exact h c3 _ σ s5 l3 w5 E5
    · exact h.elim
  · exact h.elim
theorem rs_aug {i : Nat} (h : tS T C m pin W (.aug i .add e) D σ H) : tAug i (tI T C m pin W e) (ipI fun i j => i + j) D σ H := by
  obtain ⟨c0, He, me, c, ρ, S, s0, w, E, h⟩ := h
  unfold exT at h
  split at h
  · rename_i x hx
    have hs := E.at_ i _ hx
    cases hs' : σ[i]? with
    | none => rw [hs'] at hs; cases hs
    | some o =>
    rw [hs'] at hs
    cases hs with
    | val rx =>
    cases rx
    refine ⟨_, hs', tI_weak (st_e s0 w E h) ?_⟩
    rintro y H1 ⟨c1, S1, r, s1, w1, x1, h⟩
    cases r with
    | own _ => exact h.elim
    | tmp _ => exact h.elim
    | val d =>
    cases d with
    | int k =>
      cases x1 with
      | val x1 =>
      cases x1
      exact ⟨x, k, rfl, rfl, h c1 H1 _ (s0.trans s1) (Le.refl _) w1 ((E.step s1).set (.int (x + k)) i)⟩
    | _ => exact h.elim
  · exact h.elim
theorem rs_popT (h : tS T C m pin W (.popT o) D σ H) : tDrop (tBM0 m.K "list" rPop (tI T C m pin W o)) D σ H := by
  obtain ⟨c0, He, me, c, ρ, S, s0, w, E, h⟩ := h
  unfold exT at h
  refine tI_weak (st_e s0 w E h) ?_
  rintro vo H1 ⟨c1, S1, ro, s1, w1, x1, h⟩
  have E1 := E.step s1
  split at h
  · rename_i n
    cases x1 with
    | val x1 =>
    cases x1 with
    | obj ha =>
    rename_i a
    split at h
    · rename_i xs hob
      have hro := w1.obj n a _ ha hob
      cases hro with
      | lst hH rs =>
      rename_i vs
      split at h
      · rename_i hl
        have hne : vs.length ≠ 0 := by rw [rs.length]; exact hl
        refine ⟨.inl ⟨rfl, _, SqL.of hH⟩, a, vs, vs[vs.length - 1]'(by omega), rfl, rfl, hH, List.getElem?_eq_getElem _, ?_⟩
        obtain ⟨s5, w5, E5⟩ := obj_mut (u := .lst vs.dropLast) (ob' := .lst xs.dropLast) (s0.trans s1) w1 E1 ha (.lst upd_same rs.dropLast)
        exact h c1 _ σ s5 (Le.refl _) w5 E5
      · exact h.elim
    · exact h.elim
  · exact h.elim
theorem rs_ext (h : tS T C m pin W (.ext o e) D σ H) : tDrop (tBM m.K "list" rExtend (tI T C m pin W o) (tCons (tI T C m pin W e) tNil)) D σ H := by
  obtain ⟨c0, He, me, c, ρ, S, s0, w, E, h⟩ := h
  unfold exT at h
  refine tI_weak (st_e s0 w E h) ?_
  rintro vo H1 ⟨c1, S1, ro, s1, w1, x1, h⟩
  have E1 := E.step s1
  split at h
  · rename_i n
    cases x1 with
    | val x1 =>
    cases x1 with
    | obj ha =>
    rename_i a
    split at h
    · rename_i ys0 hob1
      have hro1 := w1.obj n a _ ha hob1
      refine ⟨?_, tI_weak (st_e (s0.trans s1) w1 E1 h) ?_⟩
      · cases hro1 with
        | lst hH rs => exact .inl ⟨rfl, _, SqL.of hH⟩
      rintro v H2 ⟨c2, S2, r, s2, w2, x2, h⟩
      have E2 := E1.step s2
      split at h
      · rename_i ys
        cases x2 with
        | own h1 h2 h3 h4 =>
        cases h1 with
        | lst hb rb =>
        split at h
        · rename_i xs hob
          split at h
          · rename_i hl
            have ha2 : c2.A[n]? = some a := by
              obtain ⟨mo, e, _⟩ := s2.A
              rw [e, List.getElem?_append_left (List.getElem?_eq_some_iff.mp ha).1]
              exact ha
            have hro := w2.obj n a _ ha2 hob
            cases hro with
            | lst hH rs =>
            refine ⟨a, _, _, _, rfl, rfl, hH, hb, by rw [rs.length, rb.length]; exact Nat.le_of_lt (lim_lt hl), ?_⟩
            obtain ⟨s5, w5, E5⟩ := obj_mut (u := .lst (_ ++ _)) (ob' := .lst (xs ++ ys)) ((s0.trans s1).trans s2) w2 E2 ha2 (.lst upd_same (rs.append rb))
            exact h c2 _ σ s5 (Le.refl _) w5 E5
          · exact h.elim
        · exact h.elim
      · exact h.elim
    · exact h.elim
  · exact h.elim
theorem rs_extO {s : Nat} (h : tS T C m pin W (.extO s e) D σ H) : tDrop (tBM m.K "list" rExtend (tVar s) (tCons (tI T C m pin W e) tNil)) D σ H := by
  obtain ⟨c0, He, me, c, ρ, S, s0, w, E, h⟩ := h
  unfold exT at h
  split at h
  · rename_i xs hob
    obtain ⟨p, hs', ro, g, n, f⟩ := E.own_at hob
    refine ⟨_, hs', ?_, tI_weak (st_e s0 w E h) ?_⟩
    · cases ro with
      | lst hH rs => exact .inl ⟨rfl, _, SqL.of hH⟩
    rintro v H2 ⟨c2, S2, r, s2, w2, x2, h⟩
    have E2 := E.step s2
    split at h
    · rename_i ys
      cases x2 with
      | own h1 h2 h3 h4 =>
      cases h1 with
      | lst hb rb =>
      split at h
      · rename_i hl
        obtain ⟨p', hs4, ro4, _⟩ := E2.own_at hob
        rw [hs'] at hs4
        cases hs4
        cases ro4 with
        | lst hH rs =>
        refine ⟨p, _, _, _, rfl, rfl, hH, hb, by rw [rs.length, rb.length]; exact Nat.le_of_lt (lim_lt hl), ?_⟩
        obtain ⟨s5, w5, E5⟩ := own_mut (u := .lst (_ ++ _)) (o' := .lst (xs ++ ys)) (s0.trans s2) w2 E2 hob hs' (.lst upd_same (rs.append rb)) (fun _ _ z => by cases z)
        exact h c2 _ σ s5 (Le.refl _) w5 E5
      · exact h.elim
    · exact h.elim
  · exact h.elim
theorem putF_set : ∀ {ns : List Str} {vs : List V} {f : Str} {v : V} {j : Nat}, ns.Nodup → ns[j]? = some f → j < vs.length → putF f v (ns.zip vs) = ns.zip (vs.set j v)
  | [], _, _, _, _, _, h, _ => by simp at h
  | n :: ns, [], f, v, j, _, _, h => by simp at h
  | n :: ns, u :: vs, f, v, 0, _, h, _ => by
    simp at h
    subst h
    show (if n = n then _ else _) = _
    rw [if_pos rfl]
    rfl
  | n :: ns, u :: vs, f, v, j + 1, nd, h, hl => by
    rw [List.nodup_cons] at nd
    have h' : ns[j]? = some f := by simpa using h
    have ne : n ≠ f := fun z => nd.1 (z ▸ List.mem_of_getElem? h')
    show (if n = f then _ else (n, u) :: putF f v (ns.zip vs)) = _
    rw [if_neg ne, putF_set nd.2 h' (by simpa using hl)]
    rfl
theorem rs_setF {kc j : Nat} {f : Str} {n : Nm} (cf : ClsF m n T kc) (hfj : (m.fn kc)[j]? = some f)
    (h : tS T C m pin W (.setF kc j o e) D σ H) : sFld m.K (tI T C m pin W o) (tI T C m pin W e) f D σ H := by
  obtain ⟨c0, He, me, c, ρ, S, s0, w, E, h⟩ := h
  unfold exT at h
  refine tI_weak (st_e s0 w E h) ?_
  rintro v H1 ⟨c1, S1, r, s1, w1, x1, h⟩
  cases hfz : r.frz with
  | none => simp only [hfz] at h; exact h.elim
  | some d =>
  simp only [hfz] at h
  obtain ⟨c2, s2, w2, r2, l2⟩ := x1.frz w1 s1 hfz
  have E2 := E.step s2
  replace h := h.mono l2
  refine tI_weak (st_e (s0.trans s2) w2 E2 h) ?_
  rintro vo H3 ⟨c3, S3, ro, s3, w3, x3, h⟩
  have E3 := E2.step s3
  split at h
  · rename_i nn
    cases x3 with
    | val x3 =>
    cases x3 with
    | obj ha =>
    rename_i a
    split at h
    · rename_i c' ds hob
      split at h
      · rename_i hcc
        obtain ⟨rfl, hj⟩ := hcc
        have hro := w3.obj nn a _ ha hob
        cases hro with
        | ins hH hl rs =>
        rename_i dx vs
        refine ⟨a, _, dx, _, rfl, hH, cf.cls, cf.no f (List.mem_of_getElem? hfj), ?_, ?_⟩
        · rw [List.length_zip]
          exact Nat.lt_of_le_of_lt (Nat.min_le_left _ _) cf.len
        rw [putF_set cf.nd hfj (by rw [rs.length]; exact hj)]
        obtain ⟨s5, w5, E5⟩ := obj_mut (u := .ins (m.cl c') dx ((m.fn c').zip (vs.set j v))) (ob' := .ins c' (ds.set j d)) ((s0.trans s2).trans s3) w3 E3 ha (.ins upd_same (by rw [List.length_set]; exact hl) (rs.set j (r2.le s3.le)))
        exact h c3 _ σ s5 (Le.refl _) w5 E5
      · exact h.elim
    · exact h.elim
  · exact h.elim
theorem putF_zip : ∀ {ns : List Str} {vs : List V} {f : Str} {v : V}, ns.Nodup → ns[vs.length]? = some f → putF f v (ns.zip vs) = ns.zip (vs ++ [v])
  | [], _, _, _, _, h => by simp at h
  | n :: ns, [], f, v, _, h => by
    simp at h
    subst h
    simp [putF]
  | n :: ns, u :: vs, f, v, nd, h => by
    rw [List.nodup_cons] at nd
    have h' : ns[vs.length]? = some f := by simpa using h
    have ne : n ≠ f := fun z => nd.1 (z ▸ List.mem_of_getElem? h')
    show putF f v ((n, u) :: ns.zip vs) = (n, u) :: ns.zip (vs ++ [v])
    show (if n = f then _ else (n, u) :: putF f v (ns.zip vs)) = _
    rw [if_neg ne, putF_zip nd.2 h']
theorem rs_setFO {kc j : Nat} {f : Str} {n : Nm} (hc : T.cls kc = true → ClsF m n T kc) (hfj : (m.fn kc)[j]? = some f)
    (h : tS T C m pin W (.setFO kc j e) D σ H) : sFld m.K (tVar 0) (tI T C m pin W e) f D σ H := by
  obtain ⟨c0, He, me, c, ρ, S, s0, w, E, h⟩ := h
  unfold exT at h
  refine tI_weak (st_e s0 w E h) ?_
  rintro v H1 ⟨c1, S1, r, s1, w1, x1, h⟩
  cases hfz : r.frz with
  | none => simp only [hfz] at h; exact h.elim
  | some d =>
  simp only [hfz] at h
  obtain ⟨c2, s2, w2, r2, l2⟩ := x1.frz w1 s1 hfz
  have E2 := E.step s2
  replace h := h.mono l2
  split at h
  · rename_i d' k ds e1 hob
    cases e1
    split at h
    · rename_i hcc
      have h9 := h
      obtain ⟨hc1, hc2, rfl⟩ := hcc
      obtain ⟨p, hs', ro, _⟩ := E2.own_at hob
      cases ro with
      | ins hH hl rs =>
      rename_i dx vs
      have cf := hc hc2
      have hl' : vs.length = j := by rw [rs.length]; exact hc1
      refine ⟨_, hs', p, _, dx, _, rfl, hH, cf.cls, cf.no f (List.mem_of_getElem? hfj), ?_, ?_⟩
      · rw [List.length_zip]
        exact Nat.lt_of_le_of_lt (Nat.min_le_left _ _) cf.len
      rw [putF_zip cf.nd (by rw [hl']; exact hfj)]
      have hlt : j < (m.fn k).length := (List.getElem?_eq_some_iff.mp hfj).1
      obtain ⟨s5, w5, E5⟩ := own_mut (u := .ins (m.cl k) dx ((m.fn k).zip (vs ++ [v]))) (o' := .ins k (ds ++ [d])) (s0.trans s2) w2 E2 hob hs' (.ins upd_same (by rw [List.length_append, List.length_singleton]; omega) (rs.append (.cons r2 .nil))) (fun _ _ _ => ⟨_, _, rfl⟩)
      exact h9 c2 _ σ s5 (Le.refl _) w5 E5
    · exact h.elim
  · exact h.elim
theorem rs_while {n : Nat} {cc : E} (h : tS T C m pin W (.whil n cc b) D σ H) : tWhile (tT T C m pin W cc) (tS T C m pin W b) D σ H := by
  obtain ⟨c0, He, me, c, ρ, S, s0, w, E, h⟩ := h
  unfold exT at h
  refine ⟨fun n σ H => ∃ c ρ S, Step c0 He c H ∧ Wd m c H S ∧ EnvR m c H pin me He ρ σ ∧ PostS m W c0 He me pin c (whileLoop (evE T C cc) (exT T C b) n ρ S) D, ⟨n, c, ρ, S, s0, w, E, h⟩, ?_⟩
  rintro n σ H ⟨c, ρ, S, s0, w, E, h⟩
  cases n with
  | zero => unfold whileLoop at h; exact h.elim
  | succ n =>
  unfold whileLoop at h
  refine ⟨c, ρ, S, me, He, E, w, ?_⟩
  cases q : evE T C cc ρ S with
  | bad => rw [q] at h; exact h
  | exc k ds S1 =>
    rw [q] at h
    exact fun c' H' cls d st w' x => h c' H' σ cls d (s0.trans st) st.le w' (E.step st) x
  | ok r S1 =>
    rw [q] at h
    cases r with
    | own _ => exact h.elim
    | tmp _ => exact h.elim
    | val d =>
    cases d with
    | bl bb =>
      intro c1 H1 v s1 w1 x1
      refine ⟨bb, bl_of x1, ?_⟩
      cases bb with
      | false => exact iteF (h c1 H1 σ (s0.trans s1) s1.le w1 (E.step s1))
      | true =>
        refine iteT ⟨fun σ' H' => ∃ c ρ S, Step c0 He c H' ∧ Wd m c H' S ∧ EnvR m c H' pin me He ρ σ' ∧ PostS m W c0 He me pin c (whileLoop (evE T C cc) (exT T C b) n ρ S) D, fun σ' H' q => ⟨n, Nat.lt_succ_self n, q⟩, st_to (s0.trans s1) w1 (E.step s1) ?_⟩
        have h := h.mono s1.le
        cases q2 : exT T C b ρ S1 with
        | nx ρ1 S2 =>
          simp only [q2] at h
          exact fun c' H' σ' s l w E => ⟨c', ρ1, S2, s, w, E, h.mono l⟩
        | bk ρ1 S2 => simp only [q2] at h; exact h
        | rt r S2 => simp only [q2] at h; exact h
        | exc k ds ρ1 S2 => simp only [q2] at h; exact h
        | bad => simp only [q2] at h; exact h
    | _ => exact h.elim
theorem rs_for {tg : List Nat} {it : I} (h : tS T C m pin W (.for_ tg it b) D σ H) : tFor (wIG T C m pin W it) (gTg m.K tg) (tS T C m pin W b) D σ H := by
  obtain ⟨c0, He, me, c, ρ, S, s0, w, E, h⟩ := h
  unfold exT at h
  refine ⟨c, ρ, S, me, He, E, w, ?_⟩
  cases q : evI T C it ρ S with
  | bad => rw [q] at h; exact h
  | exc k ds S1 =>
    rw [q] at h
    exact fun c' H' cls d st w' x => h c' H' σ cls d (s0.trans st) st.le w' (E.step st) x
  | ok xs S1 =>
  rw [q, Out.thn_ok] at h
  intro c1 H1 J s1 w1 wk
  split at h
  · generalize hF : (fun (x : R.D) (ρ : REnv) (S : Store) => match put ρ tg x with
        | some ρ1 => exT T C b ρ1 S
        | none => OutS.bad) = F at h
    refine ⟨fun i n σ H => n = xs.length - i ∧ i ≤ xs.length ∧ ∃ c2 ρ S, Step c0 He c2 H ∧ Le c1 c2 ∧ Wd m c2 H S ∧ EnvR m c2 H pin me He ρ σ ∧ PostS m W c0 He me pin c2 (forLoop F (xs.drop i) ρ S) D, ⟨_, rfl, Nat.zero_le _, c1, ρ, S1, s0.trans s1, Le.refl _, w1, E.step s1, by rw [List.drop_zero]; exact h.mono s1.le⟩, ?_⟩
    rintro i n σ H2 ⟨rfl, hi, c2, ρ2, S2, s2, l2, w2, E2, h2⟩
    have wkk := wk i c2 H2 S2 l2 w2
    by_cases hlt : i < xs.length
    · have hd : xs[i]? = some xs[i] := List.getElem?_eq_getElem hlt
      obtain ⟨go, yl⟩ := wkk.1 _ hd
      refine .inr ⟨go, fun σ H => i + 1 ≤ xs.length ∧ ∃ c2 ρ S, Step c0 He c2 H ∧ Le c1 c2 ∧ Wd m c2 H S ∧ EnvR m c2 H pin me He ρ σ ∧ PostS m W c0 He me pin c2 (forLoop F (xs.drop (i + 1)) ρ S) D, fun σ' H' nx => ⟨xs.length - (i + 1), by omega, rfl, nx⟩, fun x H' y => ?_⟩
      obtain ⟨c3, s3, w3, rx⟩ := yl x H' y
      rw [List.drop_eq_getElem_cons hlt, forLoop] at h2
      have hFx : F xs[i] ρ2 S2 = match put ρ2 tg xs[i] with
        | some ρ1 => exT T C b ρ1 S2
        | none => OutS.bad := by rw [← hF]
      rw [hFx] at h2
      cases hp : put ρ2 tg xs[i] with
      | none => simp only [hp] at h2; exact h2.elim
      | some ρ1 =>
      simp only [hp] at h2
      refine gTg_of w3 (E2.step s3) hp rx fun us hl E4 => st_to (s2.trans s3) w3 E4 ?_
      have h2 := h2.mono s3.le
      cases q2 : exT T C b ρ1 S2 with
      | nx ρ1 S2 =>
        simp only [q2] at h2
        exact fun c' H' σ' s l w E => ⟨hlt, c', ρ1, S2, s, (l2.trans s3.le).trans l, w, E, h2.mono l⟩
      | bk ρ1 S2 => simp only [q2] at h2; exact h2
      | rt r S2 => simp only [q2] at h2; exact h2
      | exc k ds ρ1 S2 => simp only [q2] at h2; exact h2
      | bad => simp only [q2] at h2; exact h2
    · refine .inl ⟨wkk.2 (by omega), ?_⟩
      rw [List.drop_eq_nil_of_le (by omega), forLoop] at h2
      exact h2 c2 H2 σ s2 (Le.refl _) w2 E2
  · exact h.elim
/-! ### raise, try -/
theorem rs_rais {k : Nat} (hf : m.fn k = []) (h : tS T C m pin W (.rais k .nil) D σ H) : W (.ref (m.cl k)) none σ H := by
  obtain ⟨c0, He, me, c, ρ, S, s0, w, E, h⟩ := h
  unfold exT evL at h
  simp only [Out.thn_ok] at h
  split at h
  · exact h c H σ _ none s0 (Le.refl _) w E ⟨rfl, .inl ⟨hf, rfl, rfl⟩⟩
  · exact h.elim
def pinOf (a : Addr) (cls : Value) (d : Option Addr) : Pin := fun a' cls' d' => a' = a ∧ cls' = cls ∧ d' = d
/-- the clauses, as a list -/
def hdsOf (T : Tab) (C : Calls) (m : Pm) : Hs → List (Value × Option Nat × SuT)
  | .nil => []
  | .cons c i s rest => (.ref (m.cl c), i, fun a cls d => tS T C m (pinOf a cls d) noW s) :: hdsOf T C m rest
theorem SlR.pinned {pin' : Pin} (h : ∀ a c d, pin a c d → pin' a c d) {x : Option (Option V)} {sl : Sl} (q : SlR m c H pin me He x sl) : SlR m c H pin' me He x sl := by
  cases q with
  | un => exact .un
  | val h => exact .val h
  | own h1 h2 h3 h4 h5 => exact .own h1 h2 h3 h4 h5
  | exc h1 h2 => exact .exc (h _ _ _ h1) h2
theorem EnvR.setExc {pin' : Pin} (h : ∀ a c d, pin a c d → pin' a c d) (E : EnvR m c H pin me He ρ σ) {a : Addr} {cls : Value} {d : Option Addr} {k : Nat} {ds : List R.D} (hp : pin' a cls d) (x : ExR m c cls d k ds) (i : Nat) :
    EnvR m c H pin' me He (ρ.set i (.exc k ds)) (σ.set i (some (.ref a))) := by
  have hl := E.len
  refine ⟨by simp [hl], fun j s e => ?_, fun j k2 o o' q hn e1 e2 e3 e4 => ?_⟩
  · by_cases hj : i = j
    · subst hj
      obtain ⟨hlt, _⟩ := List.getElem?_eq_some_iff.mp e
      rw [List.length_set] at hlt
      rw [List.getElem?_set_self hlt] at e
      cases e
      rw [List.getElem?_set_self (by rw [← hl]; exact hlt)]
      exact .exc hp x
    · rw [List.getElem?_set_ne hj] at e
      rw [List.getElem?_set_ne hj]
      exact (E.at_ j s e).pinned h
  · have key : ∀ {j : Nat} {o : O}, (ρ.set i (Sl.exc k ds))[j]? = some (.own o) → i ≠ j ∧ ρ[j]? = some (.own o) := fun {j o} e => by
      by_cases hj : i = j
      · subst hj
        obtain ⟨hlt, _⟩ := List.getElem?_eq_some_iff.mp e
        rw [List.length_set] at hlt
        rw [List.getElem?_set_self hlt] at e
        cases e
      · rw [List.getElem?_set_ne hj] at e
        exact ⟨hj, e⟩
    obtain ⟨n1, f1⟩ := key e1
    obtain ⟨n2, f2⟩ := key e2
    rw [List.getElem?_set_ne n1] at e3
    rw [List.getElem?_set_ne n2] at e4
    exact E.nd j k2 o o' q hn f1 f2 e3 e4
theorem EnvR.repin {pin' : Pin} (h : ∀ a c d, pin a c d → pin' a c d) (E : EnvR m c H pin me He ρ σ) : EnvR m c H pin' me He ρ σ := ⟨E.len, fun i s e => (E.at_ i s e).pinned h, E.nd⟩
/-- no exception is left in the slots -/
theorem EnvR.unpin {pin' : Pin} (h : ρ.all notExc = true) (E : EnvR m c H pin me He ρ σ) : EnvR m c H pin' me He ρ σ := by
  refine ⟨E.len, fun i s e => ?_, E.nd⟩
  have hs := E.at_ i s e
  have hn := List.all_eq_true.mp h s (List.mem_of_getElem? e)
  generalize σ[i]? = x at hs ⊢
  cases hs with
  | un => exact .un
  | val h => exact .val h
  | own h1 h2 h3 h4 h5 => exact .own h1 h2 h3 h4 h5
  | exc h1 h2 => cases hn
theorem mix_of (hx : ∀ k c b, T.sub k c = some b → PySem.W.exmOne m.K (.ref (m.cl k)) (.ref (m.cl c)) = some b) {k : Nat} {ds : List R.D} {cls : Value} {d : Option Addr} (s0 : Step c0 He c H) (w : Wd m c H S) (E : EnvR m c H noPin me He ρ σ) (x : ExR m c cls d k ds) :
    ∀ {h : Hs}, PostS m W c0 He me noPin c (exH T C h k ds ρ S) D → wMix m.K W D (hdsOf T C m h) cls d σ H
  | .nil, h => by
    unfold exH at h
    exact h c H σ cls d s0 (Le.refl _) w E x
  | .cons c' i s rest, h => by
    unfold exH at h
    have hcls := x.1
    cases i with
    | none =>
      split at h
      · rename_i hs
        refine ⟨true, by rw [hcls]; exact hx _ _ _ hs, fun _ a ha => ⟨c0, He, me, c, ρ, S, s0, w, E.repin (fun _ _ _ z => z.elim), ?_⟩, fun z => (by cases z)⟩
        simp only at h
        cases q : exT T C s ρ S with
        | nx ρ1 S1 =>
          simp only [q, backE] at h
          split at h
          · rename_i hall
            exact fun c' H' σ' s l w E => h c' H' σ' s l w (E.unpin hall)
          · exact h.elim
        | bk ρ1 S1 =>
          simp only [q, backE] at h
          split at h
          · rename_i hall
            exact fun c' H' σ' s l w E => h c' H' σ' s l w (E.unpin hall)
          · exact h.elim
        | rt r S1 => simp only [q, backE] at h; exact h
        | exc k ds ρ1 S1 => simp only [q, backE] at h; exact h.elim
        | bad => simp only [q, backE] at h; exact h
      · rename_i hs
        exact ⟨false, by rw [hcls]; exact hx _ _ _ hs, fun z => (by cases z), fun _ => mix_of hx s0 w E x h⟩
      · exact h.elim
    | some i =>
      split at h
      · rename_i hs
        refine ⟨true, by rw [hcls]; exact hx _ _ _ hs, fun _ a ha => ?_, fun z => (by cases z)⟩
        simp only at h
        split at h
        · refine ⟨c0, He, me, c, ρ.set i (.exc k ds), S, s0, w, E.setExc (fun _ _ _ z => z.elim) (pin' := pinOf a cls d) ⟨rfl, rfl, rfl⟩ x i, ?_⟩
          cases q : exT T C s (ρ.set i (.exc k ds)) S with
          | nx ρ1 S1 =>
            simp only [q, goneE] at h
            split at h
            · rename_i hall
              exact fun c' H' σ' s l w E => h c' H' _ s l w ((E.unset i none).unpin hall)
            · exact h.elim
          | bk ρ1 S1 =>
            simp only [q, goneE] at h
            split at h
            · rename_i hall
              exact fun c' H' σ' s l w E => h c' H' _ s l w ((E.unset i none).unpin hall)
            · exact h.elim
          | rt r S1 => simp only [q, goneE] at h; exact h
          | exc k ds ρ1 S1 => simp only [q, goneE] at h; exact h.elim
          | bad => simp only [q, goneE] at h; exact h
        · exact h.elim
      · rename_i hs
        exact ⟨false, by rw [hcls]; exact hx _ _ _ hs, fun z => (by cases z), fun _ => mix_of hx s0 w E x h⟩
      · exact h.elim
theorem rs_try (hx : ∀ k c b, T.sub k c = some b → PySem.W.exmOne m.K (.ref (m.cl k)) (.ref (m.cl c)) = some b) {h : Hs} (q : tS T C m noPin W (.tryx b h) D σ H) : tS T C m noPin (wMix m.K W D (hdsOf T C m h)) b D σ H := by
  obtain ⟨c0, He, me, c, ρ, S, s0, w, E, q⟩ := q
  unfold exT at q
  refine ⟨c0, He, me, c, ρ, S, s0, w, E, ?_⟩
  cases e : exT T C b ρ S with
  | nx ρ1 S1 => rw [e] at q; exact q
  | bk ρ1 S1 => rw [e] at q; exact q
  | rt r S1 => rw [e] at q; exact q
  | bad => rw [e] at q; exact q
  | exc k ds ρ1 S1 =>
    rw [e] at q
    exact fun c' H' σ' cls d s l w E x => mix_of hx s w E x (q.mono l)
end
end R

set_option maxHeartbeats 4000000
/-! What ties a statement of the text to a T; soundness. -/
namespace R
open PySem L2
/-! ### swaps -/
def noComp : Expr → Bool
  | .ListComp _ _ _ _ => false
  | .SetComp _ _ _ _ => false
  | .DictComp _ _ _ _ _ => false
  | _ => true
theorem swaps_plain {v : Expr} (h : noComp v = true) (t : Option Expr) (l : Nat) (env : PySem.Env) : swapsWith v t l env = pure false := by
  unfold swapsWith
  cases v <;> first | rfl | (cases h; done)
theorem swaps_attr (v o : Expr) (f : Str) (p : Pos) (l : Nat) (env : PySem.Env) : swapsWith v (some (.Attribute o f p)) l env = pure false := by
  unfold swapsWith
  cases v <;> rfl
theorem swaps_sub (v o i : Expr) (p : Pos) (l : Nat) (env : PySem.Env) : swapsWith v (some (.Subscript o i p)) l env = pure false := by
  unfold swapsWith
  cases v <;> rfl
def isTup : Expr → Bool
  | .Tuple _ _ _ => true
  | _ => false
theorem stores_plain {ts : List Expr} {k : Nat} {p : Pos} {v : Expr} (h : isTup v = false) (env : PySem.Env) : swappedStores [.Tuple ts k p] v env = pure none := by
  unfold swappedStores
  cases v <;> first | rfl | (cases h; done)
theorem stores_sub (v o i : Expr) (p : Pos) (env : PySem.Env) : swappedStores [.Subscript o i p] v env = pure none := by
  unfold swappedStores
  cases v <;> rfl
def starB : Expr → Bool
  | .Starred _ _ => true
  | _ => false
def namesB (sc : Scope) (ts : List Expr) : List Str := ts.filterMap fun
    | .Name id pos => if sc.names.lookup id == some .local && pos.line == (ts.head?.map (·.pos.line)).getD 0 then some id else none
    | _ => none
/-- swappedStores of tuples, by the scope -/
def swB (sc : Scope) (ts vs : List Expr) : Option (Option (List Str)) :=
  if (!(ts.length == 2 || ts.length == 3) || vs.length != ts.length) = true then some none else
  if (vs.any starB) = true then some none else
  if ((namesB sc ts).length != ts.length || (namesB sc ts).eraseDups.length != (namesB sc ts).length) = true then some none else
  if vs.all (foldedForSure 8) = true then some none else
  if vs.all (constantsAlone 8) = true then none else some (some (namesB sc ts))
theorem swB_ok {sc : Scope} {ts vs : List Expr} {r : Option (List Str)} (h : swB sc ts vs = some r) (env : PySem.Env) (he : env.scope = sc) (hk : sc.kind = .function) (k k2 : Nat) (p p2 : Pos) :
    swappedStores [.Tuple ts k p] (.Tuple vs k2 p2) env = pure r := by
  subst he
  have hb : env.blockKind = .function := by
    unfold PySem.Env.blockKind
    rw [hk]
    rfl
  unfold swB at h
  unfold swappedStores
  simp only [hb]
  have e1 : (ScopeKind.function != ScopeKind.function) = false := by decide
  simp only [e1, Bool.or_false]
  change (if (!(ts.length == 2 || ts.length == 3) || vs.length != ts.length) = true then pure none else if (vs.any starB) = true then pure none else if ((namesB env.scope ts).length != ts.length || (namesB env.scope ts).eraseDups.length != (namesB env.scope ts).length) = true then pure none else
    if vs.all (foldedForSure 8) = true then pure none else if vs.all (constantsAlone 8) = true then (do unsupported "assign.tuple-of-constant-expressions:order-of-the-stores"; pure (some (namesB env.scope ts))) else pure (some (namesB env.scope ts)) : Sem (Option (List Str))) = pure r
  by_cases h1 : (!(ts.length == 2 || ts.length == 3) || vs.length != ts.length) = true
  · rw [if_pos h1] at h
    cases h
    rw [if_pos h1]
  rw [if_neg h1] at h
  rw [if_neg h1]
  by_cases h2 : vs.any starB = true
  · rw [if_pos h2] at h
    cases h
    rw [if_pos h2]
  rw [if_neg h2] at h
  rw [if_neg h2]
  by_cases h3 : ((namesB env.scope ts).length != ts.length || (namesB env.scope ts).eraseDups.length != (namesB env.scope ts).length) = true
  · rw [if_pos h3] at h
    cases h
    rw [if_pos h3]
  rw [if_neg h3] at h
  rw [if_neg h3]
  by_cases h4 : vs.all (foldedForSure 8) = true
  · rw [if_pos h4] at h
    cases h
    rw [if_pos h4]
  rw [if_neg h4] at h
  rw [if_neg h4]
  by_cases h5 : vs.all (constantsAlone 8) = true
  · rw [if_pos h5] at h
    cases h
  rw [if_neg h5] at h
  rw [if_neg h5]
  cases h
  rfl
end R

set_option maxHeartbeats 4000000
/-! Soundness of the statements. -/
namespace R
open PySem L2
section
variable {T : Tab} {C : Calls} {m : Pm} {pin : Pin} {W : WX} {σ : St} {H : Hp} {D : Ends} {es : Es} {i j l : Nat} {is : List Nat}
theorem PostL.weak {c : Cfg} {out : Out (List R.D)} {Q Q' : List V → Hp → Prop} (h : PostL m W c H σ out Q) (q : ∀ v H', Q v H' → Q' v H') : PostL m W c H σ out Q' := by
  cases out with
  | ok r S => exact fun c' H' v s w x => q _ _ (h c' H' v s w x)
  | exc k ds S => exact h
  | bad => exact h
theorem rs_par2 (h : tS T C m pin W (.par [i, j] es) D σ H) : tPar i j (tL T C m pin W es) D σ H := by
  refine tL_weak (rs_par h) ?_
  rintro vs H1 ⟨hl, _, q⟩
  match vs, hl, q with
  | [v, w], _, q => exact ⟨v, w, rfl, q⟩
theorem rs_par3 (h : tS T C m pin W (.par [i, j, l] es) D σ H) : tPar3 i j l (tL T C m pin W es) D σ H := by
  refine tL_weak (rs_par h) ?_
  rintro vs H1 ⟨hl, _, q⟩
  match vs, hl, q with
  | [u, v, w], _, q => exact ⟨u, v, w, rfl, q⟩
theorem rs_parN (h1 : ¬ is.length = 1) (h2 : is.length ≤ 1000) (h : tS T C m pin W (.par is es) D σ H) : tAsg (tTup (tL T C m pin W es)) (gTg m.K is) D σ H := by
  refine tL_weak (rs_par h) ?_
  rintro vs H1 ⟨hl, q, _⟩
  refine ⟨by rw [hl]; exact Nat.le_trans h2 (by decide), fun p hp => ?_⟩
  rw [gTg_many m.K h1]
  exact ⟨p, vs, rfl, .inl (.inl upd_same), hl, gTgs_of hl (q p hp)⟩
end
theorem swaps_tup (v : Expr) (es : List Expr) (k : Nat) (p : Pos) (l : Nat) (env : PySem.Env) : swapsWithSole [.Tuple es k p] v l env = pure false := by
  show swapsWith v (some (.Tuple es k p)) l env = pure false
  unfold swapsWith
  cases v <;> rfl
theorem swaps_subS (v o i : Expr) (p : Pos) (l : Nat) (env : PySem.Env) : swapsWithSole [.Subscript o i p] v l env = pure false := swaps_sub v o i p l env
theorem sub_plain {o i : Expr} {pos : Pos} {env : PySem.Env} (h : notSlice i = true) : ∀ v, assign (.Subscript o i pos) env v = (do
      let ov ← holding [v] (eval o env)
      let iv ← holding [v, ov] (eval i env)
      standAt pos
      holding [v, ov, iv] (setItem ov iv v)
      release [v, ov, iv] []) := by
  intro v
  cases i <;> first | rfl | (cases h; done)
theorem few_one {e : Expr} {env : PySem.Env} {cpos : Pos} (h : notStar e = true) : ((backTo cpos (starEach [e] env)).all (fun x => !x.1) && (backToKw cpos (keywordEach [] env)).all (fun x => x.1.isSome)
      && decide ([e].length + ([] : List Keyword).length + (if ([] : List Keyword).isEmpty then 0 else 1) < 30)) = true := by
  rw [star_cons h]
  rfl
def loclB (sc : Scope) (x : Str) : Bool := match sc.names.lookup x with
  | some .local => true
  | _ => false
theorem loclB_of {sc : Scope} {x : Str} (h : loclB sc x = true) : sc.names.lookup x = some .local := by
  unfold loclB at h
  split at h
  · assumption
  · cases h
def eName : Expr → Option Str
  | .Name x _ => some x
  | _ => none
section
variable (n : Nm) (fn : Nat → List Str) (N : List Str)
def parB (sc : Scope) (is : List Nat) (ts vs : List Expr) : Bool := match swB sc ts vs with
  | some none => (is.length != 1) && decide (is.length ≤ 1000) && tgsB N sc is ts
  | some (some names) => (match is, ts, vs with
    | [i, j], [.Name x _, .Name y _], [_, _] => decide (N[i]? = some x) && decide (N[j]? = some y) && decide (i ≠ j) && loclB sc x && loclB sc y && decide (names = [x, y])
    | [i, j, l], [.Name x _, .Name y _, .Name z _], [_, _, _] => decide (N[i]? = some x) && decide (N[j]? = some y) && decide (N[l]? = some z) && decide (i ≠ j) && decide (i ≠ l) && decide (j ≠ l) && loclB sc x && loclB sc y && loclB sc z && decide (names = [x, y, z])
    | _, _, _ => false)
  | none => false
def isCn : E → Bool
  | .compN _ _ _ _ _ _ => true
  | .compD _ _ _ _ _ _ _ => true
  | _ => false
/-- a comprehension that is stored to a name -/
def compB (sc : Scope) (y : Str) (py : Pos) (v : Expr) : Bool := match v with
  | .ListComp _ _ s p => loclB sc y && (py.line == p.line) && !(s.names.any fun (n, k) => n == y && (k == .local || k == .cell))
  | .DictComp _ _ _ s p => loclB sc y && (py.line == p.line) && !(s.names.any fun (n, k) => n == y && (k == .local || k == .cell))
  | _ => false
/-- no stars, one flag each -/
def chkM : Es → List Bool → Bool
  | .nil, [] => true
  | .cons _ es, _ :: bs => chkM es bs
  | _, _ => false
mutual
def chkT : T → Scope → Bool → Stmt → Bool
  | .expr e, sc, hot, s => match s with
    | .Expr x _ => noComp x && chkE n fn N e sc hot x
    | _ => false
  | .asg i e, sc, hot, s => match s with
    | .Assign [.Name x p] v q => decide (N[i]? = some x) && locB sc x && (noComp v || (!hot && isCn e && compB sc x p v)) && chkE n fn N e sc hot v
    | _ => false
  | .asgO i e, sc, hot, s => match s with
    | .Assign [.Name x p] v q => decide (N[i]? = some x) && locB sc x && (noComp v || (!hot && isCn e && compB sc x p v)) && chkE n fn N e sc hot v
    | _ => false
  | .tupl is e, sc, hot, s => match s with
    | .Assign [.Tuple ts _ _] v _ => !hot && (is.length != 1) && tgsB N sc is ts && !isTup v && chkE n fn N e sc hot v
    | _ => false
  | .par is es, sc, hot, s => match s with
    | .Assign [.Tuple ts _ _] (.Tuple vs _ _) _ => !hot && parB N sc is ts vs && chkL n fn N es sc hot vs
    | _ => false
  | .parM is es, sc, hot, s => match s with
    | .Assign [.Tuple ts _ _] (.Tuple vs _ _) _ => !hot && parB N sc (is.map (·.1)) ts vs && chkM es (is.map (·.2)) && chkL n fn N es sc hot vs
    | _ => false
  | .aug i op e, sc, hot, s => match s with
    | .AugAssign (.Name x _) .Add v _ => decide (op = .add) && decide (N[i]? = some x) && locB sc x && chkE n fn N e sc hot v
    | _ => false
  | .ext o e, sc, hot, s => match s with
    | .Expr (.Call (.Attribute a f p) [v] [] p') _ => decide (f = "extend") && baseOk a && notStar v && (p.endLine == p'.line) && chkE n fn N o sc hot a && chkE n fn N e sc hot v
    | _ => false
  | .extO k e, sc, hot, s => match s with
    | .Expr (.Call (.Attribute (.Name x _) f p) [v] [] p') _ => decide (f = "extend") && slotB N sc k x && notStar v && (p.endLine == p'.line) && chkE n fn N e sc hot v
    | _ => false
  | .popT o, sc, hot, s => match s with
    | .Expr (.Call (.Attribute a f p) [] [] p') _ => decide (f = "pop") && baseOk a && (p.endLine == p'.line) && chkE n fn N o sc hot a
    | _ => false
  | .setI o i e, sc, hot, s => match s with
    | .Assign [.Subscript a b _] v _ => notSlice b && chkE n fn N o sc hot a && chkE n fn N i sc hot b && chkE n fn N e sc hot v
    | _ => false
  | .setIO k i e, sc, hot, s => match s with
    | .Assign [.Subscript (.Name x _) b _] v _ => notSlice b && slotB N sc k x && chkE n fn N i sc hot b && chkE n fn N e sc hot v
    | _ => false
  | .setF c j o e, sc, hot, s => match s with
    | .Assign [.Attribute a f _] v _ => decide ((fn c)[j]? = some f) && n.cls c && chkE n fn N o sc hot a && chkE n fn N e sc hot v
    | _ => false
  | .setFO c j e, sc, hot, s => match s with
    | .Assign [.Attribute (.Name x _) f _] v _ => decide ((fn c)[j]? = some f) && slotB N sc 0 x && chkE n fn N e sc hot v
    | _ => false
  | .app o e, sc, hot, s => match s with
    | .Expr (.Call (.Attribute a f p) [v] [] p') _ => decide (f = "append") && baseOk a && notStar v && (p.endLine == p'.line) && chkE n fn N o sc hot a && chkE n fn N e sc hot v
    | _ => false
  | .appO k e, sc, hot, s => match s with
    | .Expr (.Call (.Attribute (.Name x _) f p) [v] [] p') _ => decide (f = "append") && slotB N sc k x && notStar v && (p.endLine == p'.line) && chkE n fn N e sc hot v
    | _ => false
  | .ite c a b, sc, hot, s => match s with
    | .If x y z _ => noIf x && chkE n fn N c sc hot x && chkB a sc hot y && chkB b sc hot z
    | _ => false
  | .whil _ c b, sc, hot, s => match s with
    | .While x y [] _ => !hot && noIf x && chkE n fn N c sc hot x && chkB b sc hot y
    | _ => false
  | .for_ tg it b, sc, hot, s => match s with
    | .For x y z [] _ => !hot && it.stays && tgI N sc it tg x && chkI n fn N it sc hot y && chkB b sc hot z
    | _ => false
  | .ret e, sc, hot, s => match s with
    | .Return (some x) _ => chkE n fn N e sc hot x
    | _ => false
  | .retO i, sc, _, s => match s with
    | .Return (some (.Name x _)) _ => slotB N sc i x
    | _ => false
  | .retN, _, _, s => match s with
    | .Return none _ => true
    | _ => false
  | .brk, _, _, s => match s with
    | .Break _ => true
    | _ => false
  | .rais c es, sc, hot, s => match es, s with
    | .nil, .Raise (some (.Call (.Name x _) [] [] _)) none _ => !hot && n.mk0 c && decide (n.cn c = x) && glbB sc x
    | _, _ => false
  | .tryx b h, sc, hot, s => match s with
    | .Try x (y :: ys) [] [] _ => !hot && chkB b sc hot x && chkH h sc (y :: ys)
    | _ => false
  | .dead, _, _, _ => true
  | .skip, _, _, s => match s with
    | .Pass _ => true
    | _ => false
  | .seq _ _, _, _, _ => false
def chkB : T → Scope → Bool → List Stmt → Bool
  | .skip, _, _, l => match l with
    | [] => true
    | _ => false
  | .seq a b, sc, hot, l => match l with
    | s :: r => chkT a sc hot s && chkB b sc hot r
    | _ => false
  | _, _, _, _ => false
def chkH : Hs → Scope → List ExceptHandler → Bool
  | .nil, _, l => match l with
    | [] => true
    | _ => false
  | .cons c i s rest, sc, l => match l with
    | .ExceptHandler (some (.Name x _)) nm (b₀ :: suite) _ :: r => n.exc c && decide (n.cn c = x) && glbB sc x && chkB s sc true (b₀ :: suite) && chkH rest sc r && (match i, nm with
      | none, none => true
      | some i, some y => decide (N[i]? = some y) && loclB sc y
      | _, _ => false)
    | _ => false
end
end
structure CtxS (X : Cx) (k : Nat) (W : WX) (N : List Str) (sc : Scope) (pin : Pin) (hot : Bool) : Prop where
  e : CtxE X k W N sc pin hot
  scope : X.env.scope = sc
  kind : sc.kind = .function
  stack : X.stack = X.env :: X.outer
  frame : X.env.frame = some X.env.locals
  pass : hot = false → PassesOwn (model X.prog X.w) X.A X.env X.xe
section
variable {tb : Tb} {n : Nm} {T : Tab} {C : Calls} {k : Nat} {N : List Str}
theorem PS.imp {X : Cx} {s : Stmt} {t t' : TS} (h : PS X s t) (i : ∀ D σ H, t' D σ H → t D σ H) : PS X s t' := ⟨fun pins s σ H D I q => h.run pins s σ H D I (i D σ H q)⟩
theorem PSs.imp {X : Cx} {s : List Stmt} {t t' : TS} (h : PSs X s t) (i : ∀ D σ H, t' D σ H → t D σ H) : PSs X s t' := ⟨fun pins s σ H D I q => h.run pins s σ H D I (i D σ H q)⟩
theorem CtxS.tr {X : Cx} {W W' : WX} {sc : Scope} {pin : Pin} (cx : CtxS X k W N sc pin false) {pn : List (Addr × Obj)} {xe : Value → Shared → Prop} (tk : Takes (X.tr pn xe) W') (hp : PassesOwn (model X.prog X.w) X.A X.env xe) : CtxS (X.tr pn xe) k W' N sc pin false :=
  ⟨⟨cx.e.hN, cx.e.nd, tk, cx.e.sees, cx.e.un, cx.e.cool, fun a cls d h => by
    obtain ⟨_, _, e⟩ := cx.e.cool rfl
    subst e
    exact h.elim, cx.e.sto⟩, cx.scope, cx.kind, cx.stack, cx.frame, fun _ => hp⟩
theorem CtxS.suite {X : Cx} {W : WX} {sc : Scope} {pin : Pin} {hot : Bool} (cx : CtxS X k W N sc pin hot) {a : Addr} {oe : Obj} {cls : Value} {d : Option Addr} {pn : List (Addr × Obj)} (hz : Zc cls d oe) (hv : ∃ vs, oe.data = .fields vs) : CtxS (X.suite a ((a, oe) :: pn)) k noW N sc (pinOf a cls d) true :=
  ⟨⟨cx.e.hN, cx.e.nd, takes0, cx.e.sees, cx.e.un, fun z => (by cases z), fun a' cls' d' h => by
    obtain ⟨rfl, rfl, rfl⟩ := h
    exact ⟨oe, List.mem_cons_self, hz, hv⟩, cx.e.sto⟩, cx.scope, cx.kind, cx.stack, cx.frame, fun z => (by cases z)⟩
theorem locl_of {X : Cx} {W : WX} {sc : Scope} {pin : Pin} {hot : Bool} (cx : CtxS X k W N sc pin hot) {x : Str} (h : loclB sc x = true) : X.env.scope.names.lookup x = some .local := by
  rw [cx.scope]
  exact loclB_of h
theorem used_true {v : Expr} {pos py : Pos} {y : Str} {l : Nat} {env : PySem.Env} {sc : Scope} (he : env.scope = sc) (hk : sc.kind = .function) (h : compB sc y py v = true) : swapsWith v (some (.Name y py)) l env = pure true := by
  subst he
  have hb : env.blockKind = .function := by
    unfold PySem.Env.blockKind
    rw [hk]
    rfl
  unfold compB at h
  split at h
  · simp only [Bool.and_eq_true, Bool.not_eq_true'] at h
    obtain ⟨⟨h1, h2⟩, h3⟩ := h
    have ky : env.kindOf y = some .local := loclB_of h1
    unfold swapsWith
    simp only [hb, ky, h3, Expr.pos, h2]
    rfl
  · simp only [Bool.and_eq_true, Bool.not_eq_true'] at h
    obtain ⟨⟨h1, h2⟩, h3⟩ := h
    have ky : env.kindOf y = some .local := loclB_of h1
    unfold swapsWith
    simp only [hb, ky, h3, Expr.pos, h2]
    rfl
  · cases h
/-- y = [..], y = {..} by a comprehension -/
theorem sndA {e : E} {X : Cx} {W : WX} {sc : Scope} {pin : Pin} {v : Expr} {i : Nat} {y : Str} {py q : Pos} (F : Facts (mX X tb) X.mg X.base n T C k) (cx : CtxS X k W N sc pin false) (hi : N[i]? = some y) (he : isCn e = true) (hb : compB sc y py v = true) (h : chkE n tb.fn N e sc false v = true) :
    PS X (.Assign [.Name y py] v q) (tAsg (tI T C (mX X tb) pin W e) (gName i)) := by
  have hsw : swapsWith v (some (.Name y py)) q.line X.env = pure true := used_true (pos := q) cx.scope cx.kind hb
  have nd : X.N.Nodup := by rw [cx.e.hN]; exact cx.e.nd
  have hy : X.N[i]? = some y := by rw [cx.e.hN]; exact hi
  have hyl : X.env.scope.names.lookup y = some .local := by
    unfold compB at hb
    split at hb
    · simp only [Bool.and_eq_true] at hb; exact locl_of cx hb.1.1
    · simp only [Bool.and_eq_true] at hb; exact locl_of cx hb.1.1
    · cases hb
  cases e with
  | compN own tg it c cs elt =>
    unfold chkE at h
    split at h
    · rename_i e' tg' it' ifs' gs sc' pos
      simp only [Bool.and_eq_true, Bool.not_eq_true'] at h
      obtain ⟨⟨⟨⟨⟨⟨⟨i0, h1⟩, i1⟩, i2⟩, i3⟩, h2⟩, hcs⟩, h3⟩ := h
      obtain ⟨c1, c2, c3⟩ := cx.e.cool rfl
      obtain ⟨si, sf⟩ := sndI it F cx.e h1
      have i1' : ∀ i ∈ tg, i ∈ own := fun i hi => by simpa using List.all_eq_true.mp i1 i hi
      have eo : (ownP N own).map (·.2) = own := ownP_snd N own
      refine ⟨fun pins s σ H D I hq => ?_⟩
      have hz := chkC_zero _ _ _ _ hcs
      have hq : tI T C (mX X tb) pin W (.compN own tg it c cs elt) σ H (fun x H1 => gName i x σ H1 D.nx) := hq
      rw [exec_Assign_Name_used _ _ _ _ hsw]
      refine wpAny_bind (wpAny_standAt (wpAny_bind ?_))
      show wpAny _ X.A (do let _ ← comprehension (.ListComp e' (⟨tg', it', ifs', 0⟩ :: gs) sc' pos) sc' X.env (firstIterPos (⟨tg', it', ifs', 0⟩ :: gs) pos) (newList []) false (eval it' X.env) (some (assign (.Name y py) X.env))) _ _ s
      exact wpAny_bind (thn (cn_run (tb := tb) (Qf := fun _ s' => SP X pins D .next s') c1 nd I (si tg' (tgI_r i3)) (cx.e.blkOk i2) rfl hz.1 newL_ok (fun H h _ => newLd_ok H h) (fun D => compE_list)
        (fun s H A cl fp => pg_of (X := X.blk s H sc' (compEnvC sc' cl A X.env) fp) cx.e.hN cx.e.nd c1 (cx.e.blk s H A cl fp).so (tgI_l i3)) (fun s H A cl fp => sndIf (fun z hz => sndE c (X := X.blk s H sc' (compEnvC sc' cl A X.env) fp) F (cx.e.blk s H A cl fp) hz) h3)
        (fun D s H A cl fp => sndC cs (Y := X.blk s H sc' (compEnvC sc' cl A X.env) fp) F (cx.e.blk s H A cl fp) .never hcs compE_list 0 rfl (CodeOk.imp (emitL_ok (sndE elt (X := X.blk s H sc' (compEnvC sc' cl A X.env) fp) F (cx.e.blk s H A cl fp) h2).pe) fun σ H N q => emL_of q))
        (by rw [eo]; exact hz.2) (fun x => sf X.env x) (by rw [eo]; exact cnL_of i1' c3 hq) (fin_name nd hy hyl)) fun _ s' h' => wpAny_pure (wpAny_pure h'))
    · cases h
  | compD own tg it c cs k' v' =>
    unfold chkE at h
    split at h
    · rename_i ek ev tg' it' ifs' gs sc' pos
      simp only [Bool.and_eq_true, Bool.not_eq_true'] at h
      obtain ⟨⟨⟨⟨⟨⟨⟨⟨i0, h1⟩, i1⟩, i2⟩, i3⟩, h2⟩, h2v⟩, hcs⟩, h3⟩ := h
      obtain ⟨c1, c2, c3⟩ := cx.e.cool rfl
      obtain ⟨si, sf⟩ := sndI it F cx.e h1
      have i1' : ∀ i ∈ tg, i ∈ own := fun i hi => by simpa using List.all_eq_true.mp i1 i hi
      have eo : (ownP N own).map (·.2) = own := ownP_snd N own
      have hu : X.A.units + 64 < cLine := by have := cx.e.un; omega
      refine ⟨fun pins s σ H D I hq => ?_⟩
      have hz := chkC_zero _ _ _ _ hcs
      have hq : tI T C (mX X tb) pin W (.compD own tg it c cs k' v') σ H (fun x H1 => gName i x σ H1 D.nx) := hq
      rw [exec_Assign_Name_used _ _ _ _ hsw]
      refine wpAny_bind (wpAny_standAt (wpAny_bind ?_))
      show wpAny _ X.A (do let _ ← comprehension (.DictComp ek ev (⟨tg', it', ifs', 0⟩ :: gs) sc' pos) sc' X.env (firstIterPos (⟨tg', it', ifs', 0⟩ :: gs) pos) newDict false (eval it' X.env) (some (assign (.Name y py) X.env))) _ _ s
      exact wpAny_bind (thn (cn_run (tb := tb) (Qf := fun _ s' => SP X pins D .next s') c1 nd I (si tg' (tgI_r i3)) (cx.e.blkOk i2) rfl hz.1 newDd_ok (fun H h hb => newD_ok h hb) (fun D => compE_dict)
        (fun s H A cl fp => pg_of (X := X.blk s H sc' (compEnvC sc' cl A X.env) fp) cx.e.hN cx.e.nd c1 (cx.e.blk s H A cl fp).so (tgI_l i3)) (fun s H A cl fp => sndIf (fun z hz => sndE c (X := X.blk s H sc' (compEnvC sc' cl A X.env) fp) F (cx.e.blk s H A cl fp) hz) h3)
        (fun D s H A cl fp => sndC cs (Y := X.blk s H sc' (compEnvC sc' cl A X.env) fp) F (cx.e.blk s H A cl fp) .never hcs compE_dict 0 rfl
          (CodeOk.imp (emitD_ok (tb := tb) hu (sndE k' (X := X.blk s H sc' (compEnvC sc' cl A X.env) fp) F (cx.e.blk s H A cl fp) h2).pe (sndE v' (X := X.blk s H sc' (compEnvC sc' cl A X.env) fp) F (cx.e.blk s H A cl fp) h2v).pe) fun σ H N q => emD_of q))
        (by rw [eo]; exact hz.2) (fun x => sf X.env x) (by rw [eo]; exact cnD_of i1' c3 hq) (fin_name nd hy hyl)) fun _ s' h' => wpAny_pure (wpAny_pure h'))
    · cases h
  | _ => cases he
theorem sndM {X : Cx} {W : WX} {sc : Scope} {pin : Pin} {hot : Bool} (F : Facts (mX X tb) X.mg X.base n T C k) (cx : CtxE X k W N sc pin hot) : ∀ (es : Es) (bs : List Bool) (l : List Expr), chkM es bs = true → chkL n tb.fn N es sc hot l = true → PA X l (tM T C (mX X tb) pin W es bs)
  | .nil, [], l, _, h => by
    unfold chkL at h
    split at h
    · exact PA.imp pa_nil fun σ H Q q => rm_nil q
    · cases h
  | .cons e es, b :: bs, l, hm, h => by
    unfold chkL at h
    split at h
    · simp only [Bool.and_eq_true] at h
      obtain ⟨⟨i1, h1⟩, h2⟩ := h
      exact PA.imp (pa_cons (sndE e F cx h1).pe (sndM F cx es bs _ hm h2) (star_cons i1)) fun σ H Q q => rm_cons q
    · cases h
  | .nil, _ :: _, l, hm, _ => by cases hm
  | .cons _ _, [], l, hm, _ => by cases hm
  | .star _ _, [], l, hm, _ => by cases hm
  | .star _ _, _ :: _, l, hm, _ => by cases hm
section
variable {m : Pm} {pin : Pin} {W : WX} {σ : L2.St} {H : Hp} {D : Ends} {es : Es} {b1 b2 b3 : Bool} {i j l : Nat} {is : List (Nat × Bool)} {bs : List Bool}
theorem tM_weak {Q Q' : List V → Hp → Prop} (h : tM T C m pin W es bs σ H Q) (q : ∀ v H', Q v H' → Q' v H') : tM T C m pin W es bs σ H Q' := by
  obtain ⟨c, ρ, S, me, He, h1, h2, h3⟩ := h
  refine ⟨c, ρ, S, me, He, h1, h2, ?_⟩
  cases e : evM T C es bs ρ S with
  | bad => rw [e] at h3; exact h3
  | exc _ _ _ => rw [e] at h3; exact h3
  | ok ss S1 => rw [e] at h3; exact fun c' H' vs s w x => q _ _ (h3 c' H' vs s w x)
theorem rs_parM2 (h : tS T C m pin W (.parM [(i, b1), (j, b2)] es) D σ H) : tPar i j (tM T C m pin W es [b1, b2]) D σ H := by
  refine tM_weak (rs_parM h) ?_
  rintro vs H1 ⟨hl, _, q⟩
  match vs, hl, q with
  | [v, w], _, q => exact ⟨v, w, rfl, q⟩
theorem rs_parM3 (h : tS T C m pin W (.parM [(i, b1), (j, b2), (l, b3)] es) D σ H) : tPar3 i j l (tM T C m pin W es [b1, b2, b3]) D σ H := by
  refine tM_weak (rs_parM h) ?_
  rintro vs H1 ⟨hl, _, q⟩
  match vs, hl, q with
  | [u, v, w], _, q => exact ⟨u, v, w, rfl, q⟩
theorem rs_parMN (h1 : ¬ (is.map (·.1)).length = 1) (h2 : (is.map (·.1)).length ≤ 1000) (h : tS T C m pin W (.parM is es) D σ H) : tAsg (tTup (tM T C m pin W es (is.map (·.2)))) (gTg m.K (is.map (·.1))) D σ H := by
  refine tM_weak (rs_parM h) ?_
  rintro vs H1 ⟨hl, q, _⟩
  have hl' : vs.length = (is.map (·.1)).length := by rw [hl, List.length_map]
  refine ⟨by rw [hl']; exact Nat.le_trans h2 (by decide), fun p hp => ?_⟩
  rw [gTg_many m.K h1]
  exact ⟨p, vs, rfl, .inl (.inl upd_same), hl', gTgs_of hl' (q p hp)⟩
end
mutual
theorem sndT : ∀ (t : R.T) {X : Cx} {W : WX} {sc : Scope} {pin : Pin} {hot : Bool} {s : Stmt}, Facts (mX X tb) X.mg X.base n T C k → CtxS X k W N sc pin hot → chkT n tb.fn N t sc hot s = true → PS X s (tS T C (mX X tb) pin W t)
  | .expr e, X, W, sc, pin, hot, s, F, cx, h => by
    unfold chkT at h
    split at h
    · simp only [Bool.and_eq_true] at h
      exact PS.imp (ps_expr (sndE e F cx.e h.2).pe (swaps_plain h.1 _ _ _)) fun D σ H q => rs_expr q
    · cases h
  | .asg i e, X, W, sc, pin, hot, s, F, cx, h => by
    unfold chkT at h
    split at h
    · simp only [Bool.and_eq_true, decide_eq_true_eq] at h
      obtain ⟨⟨⟨h1, h2⟩, h3⟩, h4⟩ := h
      rw [Bool.or_eq_true] at h3
      rcases h3 with h3 | h3
      · exact PS.imp (ps_set (by rw [cx.e.hN]; exact cx.e.nd) (by rw [cx.e.hN]; exact h1) (cx.e.loc h2) (sndE e F cx.e h4).pe (swaps_plain h3 _ _ _) (cx.e.sto _ (loc_cases h2))) fun D σ H q => rs_asg q
      · simp only [Bool.and_eq_true, Bool.not_eq_true'] at h3
        obtain ⟨⟨rfl, h3⟩, h5⟩ := h3
        exact PS.imp (sndA F cx h1 h3 h5 h4) fun D σ H q => rs_asg q
    · cases h
  | .asgO i e, X, W, sc, pin, hot, s, F, cx, h => by
    unfold chkT at h
    split at h
    · simp only [Bool.and_eq_true, decide_eq_true_eq] at h
      obtain ⟨⟨⟨h1, h2⟩, h3⟩, h4⟩ := h
      rw [Bool.or_eq_true] at h3
      rcases h3 with h3 | h3
      · exact PS.imp (ps_set (by rw [cx.e.hN]; exact cx.e.nd) (by rw [cx.e.hN]; exact h1) (cx.e.loc h2) (sndE e F cx.e h4).pe (swaps_plain h3 _ _ _) (cx.e.sto _ (loc_cases h2))) fun D σ H q => rs_asgO q
      · simp only [Bool.and_eq_true, Bool.not_eq_true'] at h3
        obtain ⟨⟨rfl, h3⟩, h5⟩ := h3
        exact PS.imp (sndA F cx h1 h3 h5 h4) fun D σ H q => rs_asgO q
    · cases h
  | .tupl is e, X, W, sc, pin, hot, s, F, cx, h => by
    unfold chkT at h
    split at h
    · rename_i ts tk tp v p
      simp only [Bool.and_eq_true, Bool.not_eq_true', bne_iff_ne, ne_eq] at h
      obtain ⟨⟨⟨⟨h0, h1⟩, h2⟩, h3⟩, h4⟩ := h
      obtain ⟨c1, _, _⟩ := cx.e.cool h0
      obtain ⟨a, b, d⟩ := pgs_of cx.e.hN cx.e.nd cx.e.so h2
      exact PS.imp (ps_asg (sndE e F cx.e h4).pe (pg_two c1 a b d) (swaps_tup v ts tk tp _ _) (stores_plain h3 _)) fun D σ H q => rs_tupl q
    · cases h
  | .par is es, X, W, sc, pin, hot, s, F, cx, h => by
    unfold chkT at h
    split at h
    · rename_i ts tk tp vs vk vp p
      simp only [Bool.and_eq_true, Bool.not_eq_true'] at h
      obtain ⟨⟨h0, h1⟩, h2⟩ := h
      obtain ⟨c1, _, _⟩ := cx.e.cool h0
      have sl := sndL es F cx.e h2
      have nd : X.N.Nodup := by rw [cx.e.hN]; exact cx.e.nd
      unfold parB at h1
      split at h1
      · rename_i hsw
        simp only [Bool.and_eq_true, bne_iff_ne, ne_eq, decide_eq_true_eq] at h1
        obtain ⟨⟨i1, i2⟩, i3⟩ := h1
        have pg : PG X (.Tuple ts tk tp) (gTg X.K is) := pg_of cx.e.hN cx.e.nd c1 cx.e.so (by show ((is.length != 1) && tgsB N sc is ts) = true; rw [i3, Bool.and_true]; exact bne_iff_ne.mpr i1)
        exact PS.imp (ps_asg (pe_tup sl) pg rfl (swB_ok hsw _ cx.scope cx.kind _ _ _ _)) fun D σ H q => rs_parN i1 i2 q
      · rename_i names hsw
        have hw := fun k k2 p p2 => swB_ok hsw X.env cx.scope cx.kind k k2 p p2
        split at h1
        · simp only [Bool.and_eq_true, decide_eq_true_eq] at h1
          obtain ⟨⟨⟨⟨⟨i1, i2⟩, i3⟩, i4⟩, i5⟩, rfl⟩ := h1
          exact PS.imp (ps_par c1 nd (by rw [cx.e.hN]; exact i1) (by rw [cx.e.hN]; exact i2) i3 (locl_of cx i4) (locl_of cx i5) sl (hw _ _ _ _)) fun D σ H q => rs_par2 q
        · simp only [Bool.and_eq_true, decide_eq_true_eq] at h1
          obtain ⟨⟨⟨⟨⟨⟨⟨⟨⟨i1, i2⟩, i2'⟩, i3⟩, i3'⟩, i3''⟩, i4⟩, i5⟩, i5'⟩, rfl⟩ := h1
          exact PS.imp (ps_par3 c1 nd (by rw [cx.e.hN]; exact i1) (by rw [cx.e.hN]; exact i2) (by rw [cx.e.hN]; exact i2') i3 i3' i3'' (locl_of cx i4) (locl_of cx i5) (locl_of cx i5') sl (hw _ _ _ _)) fun D σ H q => rs_par3 q
        · cases h1
      · cases h1
    · cases h
  | .parM is es, X, W, sc, pin, hot, s, F, cx, h => by
    unfold chkT at h
    split at h
    · rename_i ts tk tp vs vk vp p
      simp only [Bool.and_eq_true, Bool.not_eq_true'] at h
      obtain ⟨⟨⟨h0, h1⟩, hm⟩, h2⟩ := h
      obtain ⟨c1, _, _⟩ := cx.e.cool h0
      have sl := sndM F cx.e es _ vs hm h2
      have nd : X.N.Nodup := by rw [cx.e.hN]; exact cx.e.nd
      unfold parB at h1
      split at h1
      · rename_i hsw
        simp only [Bool.and_eq_true, bne_iff_ne, ne_eq, decide_eq_true_eq] at h1
        obtain ⟨⟨i1, i2⟩, i3⟩ := h1
        have pg : PG X (.Tuple ts tk tp) (gTg X.K (is.map (·.1))) := pg_of cx.e.hN cx.e.nd c1 cx.e.so (by show (((is.map (·.1)).length != 1) && tgsB N sc (is.map (·.1)) ts) = true; rw [i3, Bool.and_true]; exact bne_iff_ne.mpr i1)
        exact PS.imp (ps_asg (pe_tup sl) pg rfl (swB_ok hsw _ cx.scope cx.kind _ _ _ _)) fun D σ H q => rs_parMN i1 i2 q
      · rename_i names hsw
        have hw := fun k k2 p p2 => swB_ok hsw X.env cx.scope cx.kind k k2 p p2
        match is, h1, sl with
        | [(i, b1), (j, b2)], h1, sl =>
          simp only [List.map_cons, List.map_nil] at h1
          split at h1
          · rename_i e1 _ _
            simp only [List.cons.injEq, and_true] at e1
            obtain ⟨rfl, rfl⟩ := e1
            simp only [Bool.and_eq_true, decide_eq_true_eq] at h1
            obtain ⟨⟨⟨⟨⟨i1, i2⟩, i3⟩, i4⟩, i5⟩, rfl⟩ := h1
            exact PS.imp (ps_par c1 nd (by rw [cx.e.hN]; exact i1) (by rw [cx.e.hN]; exact i2) i3 (locl_of cx i4) (locl_of cx i5) sl (hw _ _ _ _)) fun D σ H q => rs_parM2 q
          · rename_i e1 _ _
            simp at e1
          · cases h1
        | [(i, b1), (j, b2), (l, b3)], h1, sl =>
          simp only [List.map_cons, List.map_nil] at h1
          split at h1
          · rename_i e1 _ _
            simp at e1
          · rename_i e1 _ _
            simp only [List.cons.injEq, and_true] at e1
            obtain ⟨rfl, rfl, rfl⟩ := e1
            simp only [Bool.and_eq_true, decide_eq_true_eq] at h1
            obtain ⟨⟨⟨⟨⟨⟨⟨⟨⟨i1, i2⟩, i2'⟩, i3⟩, i3'⟩, i3''⟩, i4⟩, i5⟩, i5'⟩, rfl⟩ := h1
            exact PS.imp (ps_par3 c1 nd (by rw [cx.e.hN]; exact i1) (by rw [cx.e.hN]; exact i2) (by rw [cx.e.hN]; exact i2') i3 i3' i3'' (locl_of cx i4) (locl_of cx i5) (locl_of cx i5') sl (hw _ _ _ _)) fun D σ H q => rs_parM3 q
          · cases h1
        | [], h1, sl => cases h1
        | [_], h1, sl => cases h1
        | _ :: _ :: _ :: _ :: _, h1, sl => cases h1
      · cases h1
    · cases h
  | .aug i op e, X, W, sc, pin, hot, s, F, cx, h => by
    unfold chkT at h
    split at h
    · simp only [Bool.and_eq_true, decide_eq_true_eq] at h
      obtain ⟨⟨⟨rfl, i1⟩, i2⟩, h1⟩ := h
      have nd : X.N.Nodup := by rw [cx.e.hN]; exact cx.e.nd
      exact PS.imp (ps_aug nd (by rw [cx.e.hN]; exact i1) (cx.e.loc i2) (sndE e F cx.e h1).pe ip_add (cx.e.sto _ (loc_cases i2))) fun D σ H q => rs_aug q
    · cases h
  | .ext o e, X, W, sc, pin, hot, s, F, cx, h => by
    unfold chkT at h
    split at h
    · simp only [Bool.and_eq_true, decide_eq_true_eq] at h
      obtain ⟨⟨⟨⟨⟨rfl, h1⟩, h2⟩, h3⟩, h4⟩, h5⟩ := h
      exact PS.imp (ps_expr (pe_bm PySem.F.plainAttrs_list PySem.F.slot_list_extend PySem.F.type_list_extend mt_extend (sndE o F cx.e h4).pe (pa_cons (sndE e F cx.e h5).pe pa_nil (star_cons h2)) (base_ok h1) (few_one h2) h3 (star_cons h2) rfl) rfl) fun D σ H q => rs_ext q
    · cases h
  | .extO sl e, X, W, sc, pin, hot, s, F, cx, h => by
    unfold chkT at h
    split at h
    · unfold slotB at h
      simp only [Bool.and_eq_true, decide_eq_true_eq] at h
      obtain ⟨⟨⟨⟨rfl, ⟨i1, i2⟩, i3⟩, h2⟩, h3⟩, h5⟩ := h
      obtain ⟨o1, o2, _⟩ := okN_of i3
      exact PS.imp (ps_expr (pe_bm PySem.F.plainAttrs_list PySem.F.slot_list_extend PySem.F.type_list_extend mt_extend (pe_var (by rw [cx.e.hN]; exact i1) (cx.e.vis i2) o1 o2) (pa_cons (sndE e F cx.e h5).pe pa_nil (star_cons h2)) rfl (few_one h2) h3 (star_cons h2) rfl) rfl) fun D σ H q => rs_extO q
    · cases h
  | .popT o, X, W, sc, pin, hot, s, F, cx, h => by
    unfold chkT at h
    split at h
    · simp only [Bool.and_eq_true, decide_eq_true_eq] at h
      obtain ⟨⟨⟨rfl, h1⟩, h3⟩, h4⟩ := h
      exact PS.imp (ps_expr (pe_bm0 PySem.F.plainAttrs_list PySem.F.slot_list_pop PySem.F.type_list_pop mt_pop (sndE o F cx.e h4).pe (base_ok h1) h3) rfl) fun D σ H q => rs_popT q
    · cases h
  | .setI o ix e, X, W, sc, pin, hot, s, F, cx, h => by
    unfold chkT at h
    split at h
    · simp only [Bool.and_eq_true] at h
      obtain ⟨⟨⟨h1, h2⟩, h3⟩, h4⟩ := h
      exact PS.imp (ps_asg (sndE e F cx.e h4).pe (pg_sub (sndE o F cx.e h2).pe (sndE ix F cx.e h3).pe (set_two (tb := tb) (by have := cx.e.un; omega)) (sub_plain h1)) (swaps_subS _ _ _ _ _ _) (stores_sub _ _ _ _ _)) fun D σ H q => rs_setI q
    · cases h
  | .setIO sl ix e, X, W, sc, pin, hot, s, F, cx, h => by
    unfold chkT at h
    split at h
    · unfold slotB at h
      simp only [Bool.and_eq_true, decide_eq_true_eq] at h
      obtain ⟨⟨⟨h1, ⟨i1, i2⟩, i3⟩, h3⟩, h4⟩ := h
      obtain ⟨o1, o2, _⟩ := okN_of i3
      exact PS.imp (ps_asg (sndE e F cx.e h4).pe (pg_sub (pe_var (by rw [cx.e.hN]; exact i1) (cx.e.vis i2) o1 o2) (sndE ix F cx.e h3).pe (set_two (tb := tb) (by have := cx.e.un; omega)) (sub_plain h1)) (swaps_subS _ _ _ _ _ _) (stores_sub _ _ _ _ _)) fun D σ H q => rs_setIO q
    · cases h
  | .setF c j o e, X, W, sc, pin, hot, s, F, cx, h => by
    unfold chkT at h
    split at h
    · simp only [Bool.and_eq_true, decide_eq_true_eq] at h
      obtain ⟨⟨⟨h1, h2⟩, h3⟩, h4⟩ := h
      exact PS.imp (ps_fld (sndE o F cx.e h3).pe (sndE e F cx.e h4).pe (swaps_attr _ _ _ _ _ _)) fun D σ H q => rs_setF (n := n) (F.cls c (F.ncls c h2)).1 h1 q
    · cases h
  | .setFO c j e, X, W, sc, pin, hot, s, F, cx, h => by
    unfold chkT at h
    split at h
    · unfold slotB at h
      simp only [Bool.and_eq_true, decide_eq_true_eq] at h
      obtain ⟨⟨h1, ⟨i1, i2⟩, i3⟩, h4⟩ := h
      obtain ⟨o1, o2, _⟩ := okN_of i3
      exact PS.imp (ps_fld (pe_var (by rw [cx.e.hN]; exact i1) (cx.e.vis i2) o1 o2) (sndE e F cx.e h4).pe (swaps_attr _ _ _ _ _ _)) fun D σ H q => rs_setFO (n := n) (fun hc => (F.cls c hc).1) h1 q
    · cases h
  | .app o e, X, W, sc, pin, hot, s, F, cx, h => by
    unfold chkT at h
    split at h
    · simp only [Bool.and_eq_true, decide_eq_true_eq] at h
      obtain ⟨⟨⟨⟨⟨rfl, h1⟩, h2⟩, h3⟩, h4⟩, h5⟩ := h
      exact PS.imp (ps_expr (pe_bm PySem.F.plainAttrs_list PySem.F.slot_list_append PySem.F.type_list_append mt_append (sndE o F cx.e h4).pe (pa_cons (sndE e F cx.e h5).pe pa_nil (star_cons h2)) (base_ok h1) (few_one h2) h3 (star_cons h2) rfl) rfl) fun D σ H q => rs_app q
    · cases h
  | .appO sl e, X, W, sc, pin, hot, s, F, cx, h => by
    unfold chkT at h
    split at h
    · unfold slotB at h
      simp only [Bool.and_eq_true, decide_eq_true_eq] at h
      obtain ⟨⟨⟨⟨rfl, ⟨i1, i2⟩, i3⟩, h2⟩, h3⟩, h5⟩ := h
      obtain ⟨o1, o2, _⟩ := okN_of i3
      exact PS.imp (ps_expr (pe_bm PySem.F.plainAttrs_list PySem.F.slot_list_append PySem.F.type_list_append mt_append (pe_var (by rw [cx.e.hN]; exact i1) (cx.e.vis i2) o1 o2) (pa_cons (sndE e F cx.e h5).pe pa_nil (star_cons h2)) rfl (few_one h2) h3 (star_cons h2) rfl) rfl) fun D σ H q => rs_appO q
    · cases h
  | .ite c a b, X, W, sc, pin, hot, s, F, cx, h => by
    unfold chkT at h
    split at h
    · simp only [Bool.and_eq_true] at h
      obtain ⟨⟨⟨h1, h2⟩, h3⟩, h4⟩ := h
      exact PS.imp (ps_if ((sndE c F cx.e h2).pt h1) (sndB a F cx h3) (sndB b F cx h4)) fun D σ H q => rs_ite q
    · cases h
  | .whil m c b, X, W, sc, pin, hot, s, F, cx, h => by
    unfold chkT at h
    split at h
    · simp only [Bool.and_eq_true, Bool.not_eq_true'] at h
      obtain ⟨⟨⟨h0, h1⟩, h2⟩, h3⟩ := h
      exact PS.imp (ps_while (cx.pass h0) ((sndE c F cx.e h2).pt h1) (sndB b F cx h3)) fun D σ H q => rs_while q
    · cases h
  | .for_ tg it b, X, W, sc, pin, hot, s, F, cx, h => by
    unfold chkT at h
    split at h
    · simp only [Bool.and_eq_true, Bool.not_eq_true'] at h
      obtain ⟨⟨⟨⟨h0, h1⟩, h2⟩, h3⟩, h4⟩ := h
      obtain ⟨c1, _, _⟩ := cx.e.cool h0
      exact PS.imp (ps_for (cx.pass h0) c1 (sndIG it h1 F cx.e h3 _ (tgI_r h2)) (pg_of cx.e.hN cx.e.nd c1 cx.e.so (tgI_l h2)) (sndB b F cx h4) (fun v => (sndI it F cx.e h3).2 _ v)) fun D σ H q => rs_for q
    · cases h
  | .ret e, X, W, sc, pin, hot, s, F, cx, h => by
    unfold chkT at h
    split at h
    · exact PS.imp (ps_ret (sndE e F cx.e h).pe) fun D σ H q => rs_ret q
    · cases h
  | .retO i, X, W, sc, pin, hot, s, F, cx, h => by
    unfold chkT at h
    split at h
    · unfold slotB at h
      simp only [Bool.and_eq_true, decide_eq_true_eq] at h
      obtain ⟨⟨i1, i2⟩, i3⟩ := h
      obtain ⟨o1, o2, _⟩ := okN_of i3
      exact PS.imp (ps_ret (pe_var (by rw [cx.e.hN]; exact i1) (cx.e.vis i2) o1 o2)) fun D σ H q => rs_retO q
    · cases h
  | .retN, X, W, sc, pin, hot, s, F, cx, h => by
    unfold chkT at h
    split at h
    · exact PS.imp ps_retN fun D σ H q => rs_retN q
    · cases h
  | .brk, X, W, sc, pin, hot, s, F, cx, h => by
    unfold chkT at h
    split at h
    · exact PS.imp ps_break fun D σ H q => rs_brk q
    · cases h
  | .rais c es, X, W, sc, pin, hot, s, F, cx, h => by
    unfold chkT at h
    split at h
    · simp only [Bool.and_eq_true, Bool.not_eq_true', decide_eq_true_eq] at h
      obtain ⟨⟨⟨h0, h1⟩, rfl⟩, h2⟩ := h
      unfold glbB at h2
      simp only [Bool.and_eq_true] at h2
      obtain ⟨c1, c2, _⟩ := cx.e.cool h0
      obtain ⟨hf, hm, fI, scope, fd, x, j, p0, p1, p2, p3, p4, p5, hl, SF⟩ := F.mk0 c h1
      exact PS.imp (ps_raise c1 cx.e.tk (pmk_sup hl SF F.noSup.2 c2 (cx.e.gl h2.1) hm F.noSup.1 (okN_of h2.2).1)) fun D σ H q => rs_rais hf q
    · cases h
  | .tryx b hs, X, W, sc, pin, hot, s, F, cx, h => by
    unfold chkT at h
    split at h
    · simp only [Bool.and_eq_true, Bool.not_eq_true'] at h
      obtain ⟨⟨rfl, h1⟩, h2⟩ := h
      obtain ⟨_, _, e⟩ := cx.e.cool rfl
      subst e
      exact PS.imp (ps_try_mix cx.stack cx.frame (by rw [cx.e.hN]; exact cx.e.nd) cx.e.tk (tb := fun W' => tS T C (mX X tb) noPin W' b) (fun W' pn xe tk hp => sndB b (X := X.tr pn xe) F (cx.tr tk hp) h1) (sndH hs F cx h2)) fun D σ H q => rs_try (fun k c b hb => (F.exc k c b hb).2.2) q
    · cases h
  | .dead, X, W, sc, pin, hot, s, F, cx, h => PS.imp ps_never fun D σ H q => rs_dead q
  | .skip, X, W, sc, pin, hot, s, F, cx, h => by
    unfold chkT at h
    split at h
    · exact PS.imp ps_pass fun D σ H q => rs_skip q
    · cases h
  | .seq _ _, X, W, sc, pin, hot, s, F, cx, h => by
    unfold chkT at h
    cases h
theorem sndB : ∀ (t : R.T) {X : Cx} {W : WX} {sc : Scope} {pin : Pin} {hot : Bool} {s : List Stmt}, Facts (mX X tb) X.mg X.base n T C k → CtxS X k W N sc pin hot → chkB n tb.fn N t sc hot s = true → PSs X s (tS T C (mX X tb) pin W t)
  | .skip, X, W, sc, pin, hot, s, F, cx, h => by
    unfold chkB at h
    split at h
    · exact PSs.imp pss_nil fun D σ H q => rs_skip q
    · cases h
  | .seq a b, X, W, sc, pin, hot, s, F, cx, h => by
    unfold chkB at h
    split at h
    · simp only [Bool.and_eq_true] at h
      exact PSs.imp (pss_cons (sndT a F cx h.1) (sndB b F cx h.2)) fun D σ H q => rs_seq q
    · cases h
  | .expr _, X, W, sc, pin, hot, s, F, cx, h => by unfold chkB at h; cases h
  | .asg _ _, X, W, sc, pin, hot, s, F, cx, h => by unfold chkB at h; cases h
  | .asgO _ _, X, W, sc, pin, hot, s, F, cx, h => by unfold chkB at h; cases h
  | .tupl _ _, X, W, sc, pin, hot, s, F, cx, h => by unfold chkB at h; cases h
  | .par _ _, X, W, sc, pin, hot, s, F, cx, h => by unfold chkB at h; cases h
  | .setI _ _ _, X, W, sc, pin, hot, s, F, cx, h => by unfold chkB at h; cases h
  | .setIO _ _ _, X, W, sc, pin, hot, s, F, cx, h => by unfold chkB at h; cases h
  | .setF _ _ _ _, X, W, sc, pin, hot, s, F, cx, h => by unfold chkB at h; cases h
  | .setFO _ _ _, X, W, sc, pin, hot, s, F, cx, h => by unfold chkB at h; cases h
  | .app _ _, X, W, sc, pin, hot, s, F, cx, h => by unfold chkB at h; cases h
  | .appO _ _, X, W, sc, pin, hot, s, F, cx, h => by unfold chkB at h; cases h
  | .ite _ _ _, X, W, sc, pin, hot, s, F, cx, h => by unfold chkB at h; cases h
  | .whil _ _ _, X, W, sc, pin, hot, s, F, cx, h => by unfold chkB at h; cases h
  | .for_ _ _ _, X, W, sc, pin, hot, s, F, cx, h => by unfold chkB at h; cases h
  | .ret _, X, W, sc, pin, hot, s, F, cx, h => by unfold chkB at h; cases h
  | .retO _, X, W, sc, pin, hot, s, F, cx, h => by unfold chkB at h; cases h
  | .retN, X, W, sc, pin, hot, s, F, cx, h => by unfold chkB at h; cases h
  | .brk, X, W, sc, pin, hot, s, F, cx, h => by unfold chkB at h; cases h
  | .parM _ _, X, W, sc, pin, hot, s, F, cx, h => by unfold chkB at h; cases h
  | .aug _ _ _, X, W, sc, pin, hot, s, F, cx, h => by unfold chkB at h; cases h
  | .ext _ _, X, W, sc, pin, hot, s, F, cx, h => by unfold chkB at h; cases h
  | .extO _ _, X, W, sc, pin, hot, s, F, cx, h => by unfold chkB at h; cases h
  | .popT _, X, W, sc, pin, hot, s, F, cx, h => by unfold chkB at h; cases h
  | .rais _ _, X, W, sc, pin, hot, s, F, cx, h => by unfold chkB at h; cases h
  | .tryx _ _, X, W, sc, pin, hot, s, F, cx, h => by unfold chkB at h; cases h
  | .dead, X, W, sc, pin, hot, s, F, cx, h => by unfold chkB at h; cases h
theorem sndH : ∀ (t : Hs) {X : Cx} {W : WX} {sc : Scope} {pin : Pin} {hot : Bool} {l : List ExceptHandler}, Facts (mX X tb) X.mg X.base n T C k → CtxS X k W N sc pin hot → chkH n tb.fn N t sc l = true → HdX X l (hdsOf T C (mX X tb) t)
  | .nil, X, W, sc, pin, hot, l, F, cx, h => by
    unfold chkH at h
    split at h
    · exact .nil
    · cases h
  | .cons c i s rest, X, W, sc, pin, hot, l, F, cx, h => by
    unfold chkH at h
    split at h
    · simp only [Bool.and_eq_true, decide_eq_true_eq] at h
      obtain ⟨⟨⟨⟨⟨h1, rfl⟩, h2⟩, h3⟩, h4⟩, h5⟩ := h
      unfold glbB at h2
      simp only [Bool.and_eq_true] at h2
      have hn : Names X (n.cn c) (.ref (tb.cl c)) := ⟨cx.e.gl h2.1, (okN_of h2.2).1, .inl (F.nexc c h1)⟩
      split at h5
      · exact .cons hn trivial (fun a oe cls d pn hz hv => sndB s (X := X.suite a ((a, oe) :: pn)) F (cx.suite hz hv) h3) (sndH rest F cx h4)
      · simp only [Bool.and_eq_true, decide_eq_true_eq] at h5
        exact .cons hn ⟨by rw [cx.e.hN]; exact h5.1, locl_of cx h5.2⟩ (fun a oe cls d pn hz hv => sndB s (X := X.suite a ((a, oe) :: pn)) F (cx.suite hz hv) h3) (sndH rest F cx h4)
      · cases h5
    · cases h
end
end
end R

set_option maxHeartbeats 4000000
/-! A def of the text does what runFd says; all of them, by the depth of the calls. -/
namespace R
open PySem L2
structure DefOk (m : Pm) (n : Nm) (T : Tab) (f : Nat) (fa : Addr) (fd : FuncData) (ps : List Str) (ct : Option Nat) : Prop where
  bnd : Binds m.K fd ps []
  ex : ∃ (name qual : Str) (params : Arguments) (body : List Stmt) (scope : Scope) (N : List Str) (fdd : Fd), FunD m.K name qual params body scope [] [] fa fd ∧ FnScope N ps scope ∧ T.fd f = some fdd ∧ fdd.ctor = ct ∧ fdd.nslots = N.length ∧
    chkB n m.fn N fdd.body scope false body = true ∧ (ct = none → fdd.nargs = ps.length) ∧ (∀ c, ct = some c → fdd.nargs + 1 = ps.length)
section
variable {m : Pm} {n : Nm} {T : Tab} {C : Calls} {k f : Nat} {mg : Str → Option Value} {base : Heap} {fa : Addr} {fd : FuncData} {ps : List Str}
theorem ctx_fn {CX : Unit} {name qual : Str} {N : List Str} {scope : Scope} {cdv : Value} {A : Around} {outer : List Env} {s : Shared} {H : Hp} {E : XK} (S : FnScope N ps scope) (hr : Room (k + 1) (A.deeper (PyProof.Rows.envOfC qual scope s.heap.objs.size fa cdv))) :
    CtxS (cxOf (L2.CX m.P m.w) m.P m.w m.K mg base N qual scope fa cdv A outer s H E) k (fun cls d _ H => E cls d H) N scope noPin false :=
  ⟨⟨rfl, S.nd, takes_of rfl rfl rfl rfl, fun x kd h => .inl h, by
    have := hr.un
    show (A.deeper (PyProof.Rows.envOfC qual scope s.heap.objs.size fa cdv)).units + 70 < cLine
    omega, fun _ => ⟨rfl, hr, rfl⟩, fun _ _ _ h => h.elim, fun _ _ => .inl rfl⟩, rfl, S.kind, rfl, rfl, fun _ => passes_of rfl⟩
theorem start_env {c : Cfg} {H : Hp} {N : List Str} {vs : List V} {ds : List R.D} {me : Addr} (w : RDs m c vs ds) (hl : vs.length ≤ N.length) : EnvR m c H noPin me H (ds.map Sl.val ++ List.replicate (N.length - vs.length) .un) (L2.start N vs) := by
  have e := w.length
  refine ⟨by simp [L2.start, e], fun i s h => ?_, fun i j o o' p hn e1 => ?_⟩
  · by_cases hi : i < ds.length
    · rw [List.getElem?_append_left (by simpa using hi), List.getElem?_map] at h
      cases hd : ds[i]? with
      | none => rw [hd] at h; cases h
      | some d =>
        rw [hd] at h
        cases h
        obtain ⟨v, hv, r⟩ := w.get hd
        unfold L2.start
        rw [List.getElem?_append_left (by simpa [e] using hi), List.getElem?_map, hv]
        exact .val r
    · rw [List.getElem?_append_right (by simpa using hi), List.getElem?_replicate] at h
      split at h
      · cases h; exact .un
      · cases h
  · exfalso
    by_cases hi : i < ds.length
    · rw [List.getElem?_append_left (by simpa using hi), List.getElem?_map] at e1
      cases hd : ds[i]? with
      | none => rw [hd] at e1; cases e1
      | some d => rw [hd] at e1; cases e1
    · rw [List.getElem?_append_right (by simpa using hi), List.getElem?_replicate] at e1
      split at e1 <;> cases e1
theorem fn_sound (F : Facts m mg base n T C k) (D : DefOk m n T f fa fd ps none) : FnX m mg base (k + 2) fa fd ps (spF m (fun f ds S => match T.fd f with
    | some fdd => runFd T C fdd ds S
    | none => .bad) f ps.length) := by
  obtain ⟨name, qual, params, body, scope, N, fdd, FD, S, hT, hc, hns, hchk, hna, _⟩ := D.ex
  refine FD.ok S (fun vs H Q E h => ?_) fun cdv A outer s H vs Q E hr h => ?_
  · obtain ⟨_, _, _, _, _, hl, _⟩ := h
    exact hl
  obtain ⟨c, ds, S0, w, rds, hl, post⟩ := h
  refine ⟨tS T C m noPin (fun cls d _ H => E cls d H) fdd.body, sndB fdd.body (tb := ⟨m.cl, m.fn⟩) (X := cxOf (L2.CX m.P m.w) m.P m.w m.K mg base N qual scope fa cdv A outer s H E) F (ctx_fn S hr (CX := ()) (name := name)) hchk, ?_⟩
  have hpl : ps.length ≤ N.length := by
    have := congrArg List.length S.pre
    rw [List.length_take] at this
    omega
  refine ⟨c, H, 0, c, _, S0, Step.refl c H, w, start_env rds (by omega), ?_⟩
  have hlen : ds.length = fdd.nargs := by rw [← rds.length, hl, hna rfl]
  simp only [hT] at post
  unfold runFd at post
  rw [if_pos hlen, hc] at post
  have hrep : fdd.nslots - fdd.nargs = N.length - vs.length := by rw [hns, hl, hna rfl]
  rw [hrep] at post
  simp only at post
  cases q : exT T C fdd.body (ds.map Sl.val ++ List.replicate (N.length - vs.length) .un) S0 with
  | nx ρ S1 =>
    rw [q] at post
    exact fun c' H' σ' s l w E => post c' H' .non s w (.val .non)
  | bk ρ S1 => rw [q] at post; exact post.elim
  | rt r S1 => rw [q] at post; exact fun c' H' v s l w x => post c' H' v s w x
  | exc kk es ρ S1 =>
    rw [q] at post
    exact fun c' H' σ' cls d s l w E x => post c' H' cls d s w x
  | bad => rw [q] at post; exact post
theorem ctor_env {c : Cfg} {H : Hp} {N : List Str} {vs : List V} {ds : List R.D} {x dx : Addr} {kk : Nat} {S0 : Store} (w0 : Wd m c H S0) (w : RDs m c vs ds) (hl : vs.length + 1 ≤ N.length) (hx : H x = none) (hdx : H dx = none) (hne : dx ≠ x) :
    Step c H c (upd (upd H dx (.own x)) x (.ins (m.cl kk) dx [])) ∧ Wd m c (upd (upd H dx (.own x)) x (.ins (m.cl kk) dx [])) S0 ∧
    EnvR m c (upd (upd H dx (.own x)) x (.ins (m.cl kk) dx [])) noPin x H (.own (.ins kk []) :: ds.map Sl.val ++ List.replicate (N.length - vs.length - 1) .un) (L2.start N (.ref x :: vs)) := by
  obtain ⟨s1, w1⟩ := step_new (o := .own x) w0 hdx
  have hx1 : upd H dx (.own x) x = none := by rw [upd_ne (Ne.symm hne)]; exact hx
  obtain ⟨s2, w2⟩ := step_new (o := .ins (m.cl kk) dx []) w1 hx1
  obtain ⟨nA, nG⟩ := w0.new hx
  have e := w.length
  refine ⟨s1.trans s2, w2, ⟨by simp [L2.start, e]; omega, fun i s h => ?_, fun i j o o' p hn e1 e2 => ?_⟩⟩
  · cases i with
    | zero =>
      cases h
      refine .own (.ins (vs := []) (dx := dx) ?_ (Nat.zero_le _) .nil) nG nA hx fun _ _ _ => rfl
      rw [upd_same, List.zip_nil_right]
    | succ i =>
      have h : (ds.map Sl.val ++ List.replicate (N.length - vs.length - 1) .un)[i]? = some s := h
      have hst : (L2.start N (.ref x :: vs))[i + 1]? = (vs.map some ++ List.replicate (N.length - (vs.length + 1)) none)[i]? := by
        unfold L2.start
        simp
      rw [hst]
      by_cases hi : i < ds.length
      · rw [List.getElem?_append_left (by simpa using hi), List.getElem?_map] at h
        cases hd : ds[i]? with
        | none => rw [hd] at h; cases h
        | some d =>
          rw [hd] at h
          cases h
          obtain ⟨v, hv, r⟩ := w.get hd
          rw [List.getElem?_append_left (by simpa [e] using hi), List.getElem?_map, hv]
          exact .val r
      · rw [List.getElem?_append_right (by simpa using hi), List.getElem?_replicate] at h
        split at h
        · cases h; exact .un
        · cases h
  · have only : ∀ {i : Nat} {o : O}, (Sl.own (.ins kk []) :: ds.map Sl.val ++ List.replicate (N.length - vs.length - 1) .un)[i]? = some (.own o) → i = 0 := fun {i o} h => by
      cases i with
      | zero => rfl
      | succ i =>
        have h : (ds.map Sl.val ++ List.replicate (N.length - vs.length - 1) .un)[i]? = some (.own o) := h
        by_cases hi : i < ds.length
        · rw [List.getElem?_append_left (by simpa using hi), List.getElem?_map] at h
          cases hd : ds[i]? with
          | none => rw [hd] at h; cases h
          | some d => rw [hd] at h; cases h
        · rw [List.getElem?_append_right (by simpa using hi), List.getElem?_replicate] at h
          split at h <;> cases h
    exact absurd ((only e1).trans (only e2).symm) hn
theorem ctor_sound {kk : Nat} (F : Facts m mg base n T C k) (D : DefOk m n T f fa fd ps (some kk)) (hps : 0 < ps.length) : FnX m mg base (k + 2) fa fd ps (spK m (fun f ds S => match T.fd f with
    | some fdd => runFd T C fdd ds S
    | none => .bad) f (ps.length - 1) kk) := by
  obtain ⟨name, qual, params, body, scope, N, fdd, FD, S, hT, hc, hns, hchk, _, hna⟩ := D.ex
  refine FD.ok S (fun vs H Q E h => ?_) fun cdv A outer s H vs Q E hr h => ?_
  · obtain ⟨_, _, _, _, _, _, us, rfl, _, _, hl, _⟩ := h
    rw [List.length_cons, hl]
    omega
  obtain ⟨c, ds, S0, H0, x, dx, us, rfl, w, rds, hl, hx, hdx, hne, rfl, post⟩ := h
  refine ⟨tS T C m noPin (fun cls d _ H => E cls d H) fdd.body, sndB fdd.body (tb := ⟨m.cl, m.fn⟩) (X := cxOf (L2.CX m.P m.w) m.P m.w m.K mg base N qual scope fa cdv A outer s _ E) F (ctx_fn S hr (CX := ()) (name := name)) hchk, ?_⟩
  have hpl : ps.length ≤ N.length := by
    have := congrArg List.length S.pre
    rw [List.length_take] at this
    omega
  obtain ⟨s1, w1, E1⟩ := ctor_env (kk := kk) (N := N) w rds (by omega) hx hdx hne
  refine ⟨c, H0, x, c, _, S0, s1, w1, E1, ?_⟩
  have hna := hna kk rfl
  have hlen : ds.length = fdd.nargs := by rw [← rds.length, hl]; omega
  simp only [hT] at post
  unfold runFd at post
  rw [if_pos hlen, hc] at post
  have hrep : fdd.nslots - fdd.nargs - 1 = N.length - us.length - 1 := by rw [hns, hl]; omega
  rw [hrep] at post
  simp only at post
  cases q : exT T C fdd.body (.own (.ins kk []) :: ds.map Sl.val ++ List.replicate (N.length - us.length - 1) .un) S0 with
  | bk ρ S1 => rw [q] at post; exact post.elim
  | rt r S1 => rw [q] at post; exact post.elim
  | exc kk es ρ S1 =>
    rw [q] at post
    exact fun c' H' σ' cls d s l w E x => post c' H' cls d s w x
  | bad => rw [q] at post; exact post
  | nx ρ S1 =>
    rw [q] at post
    intro c' H' σ' s l w E
    cases ρ with
    | nil => exact post.elim
    | cons sl ρ =>
    cases sl with
    | own o =>
      cases o with
      | ins c2 fs =>
        have hs := E.at_ 0 _ rfl
        generalize σ'[0]? = y at hs
        cases hs with
        | own ro g nn fz hme =>
        have hp := hme c2 fs rfl
        subst hp
        exact post c' H' s w (.own ro g nn fz)
      | _ => exact post.elim
    | _ => exact post.elim
end
/-- what stands whatever the depth -/
structure St0 (m : Pm) (mg : Str → Option Value) (n : Nm) (T : Tab) : Prop where
  free : ∀ x ∈ n.free, mg x = none
  gl : ∀ g d, T.gl g = some d → ∃ u v, mg (n.gn g) = some u ∧ RelV v u ∧ ∀ c, RD m c v d
  fn : ∀ f x, n.kd f = some (.glob x) → ∃ fa fd ps, mg x = some (.ref fa) ∧ PySem.W.keepIn m.K (.ref fa) = true ∧ DefOk m n T f fa fd ps none
  meth : ∀ f c x, n.kd f = some (.meth c x) → ∃ fa fd ps, BMeth m.K (m.cl c) x fa ∧ Cls m.K (m.cl c) ∧ x ∉ m.fn c ∧ DefOk m n T f fa fd ps none
  ctor : ∀ f c, n.kd f = some (.ctor c) → ∃ fa fd us, mg (n.cn c) = some (.ref (m.cl c)) ∧ Mk m.K (m.cl c) fa ∧ 0 < us.length ∧ DefOk m n T f fa fd us (some c)
  prop : ∀ f c x, n.kd f = some (.prop c x) → T.cls c = true ∧ ∃ p fa fd ps, PropOf m.K (m.cl c) x p fa ∧ DefOk m n T f fa fd ps none
  eq : ∀ f c, n.kd f = some (.eq c) → T.cls c = true ∧ ∃ fa fd ps, PySem.W.findIn m.K (.ref (m.cl c)) "__eq__" = some (some (.ref fa)) ∧ PySem.W.isFn m.K (.ref fa) = true ∧ DefOk m n T f fa fd ps none
  cls : ∀ c, T.cls c = true → ClsF m n T c ∧ mg (n.cn c) = some (.ref (m.cl c))
  exc : ∀ k c b, T.sub k c = some b → L2.ExcC m.K (m.cl k) ∧ PySem.W.kitOne m.K (.ref (m.cl k)) (.ref (m.cl c)) = some b ∧ PySem.W.exmOne m.K (.ref (m.cl k)) (.ref (m.cl c)) = some b
  nexc : ∀ c, n.exc c = true → mg (n.cn c) = some (.ref (m.cl c))
  mk0 : ∀ c, n.mk0 c = true → m.fn c = [] ∧ mg (n.cn c) = some (.ref (m.cl c)) ∧ ∃ (fI : Addr) (scope : Scope) (fd : FuncData) (x : Str) (j : Nat) (p0 p1 p2 p3 p4 p5 : Pos), (p2.endLine == p4.line) = true ∧
    SupF m.K m.P.main.file (m.cl c) fI [.Expr (.Call (.Attribute (.Call (.Name "super" p0) [] [] p1) "__init__" p2) [.Constant (.str x) j p3] [] p4) p5] scope fd
  noSup : mg "super" = none ∧ (m.P.main.scope.names.lookup ("super" : Str)).isSome = false
  ncls : ∀ c, n.cls c = true → T.cls c = true
  kobj : PySem.W.specialIn m.K (.builtin "object.__class__") "__get__" = some (some (.builtin "getset_descriptor.__get__")) ∧ PySem.W.takesIn m.K (.builtin "object.__class__") = some true
theorem ar_of {m : Pm} {n : Nm} {T : Tab} {f : Nat} {fa : Addr} {fd : FuncData} {ps : List Str} (D : DefOk m n T f fa fd ps none) : ∀ j, Ar (callN T j) f ps.length
  | 0, ds, S => .inl rfl
  | j + 1, ds, S => by
    obtain ⟨_, _, _, _, _, _, fdd, _, _, hT, _, _, _, hna, _⟩ := D.ex
    show (match T.fd f with | some fdd => runFd T (callN T j) fdd ds S | none => .bad) = .bad ∨ _
    rw [hT]
    unfold runFd
    by_cases h : ds.length = fdd.nargs
    · exact .inr (h.trans (hna rfl))
    · exact .inl (if_neg h)
theorem arK_of {m : Pm} {n : Nm} {T : Tab} {f c : Nat} {fa : Addr} {fd : FuncData} {ps : List Str} (D : DefOk m n T f fa fd ps (some c)) : ∀ j, Ar (callN T j) f (ps.length - 1)
  | 0, ds, S => .inl rfl
  | j + 1, ds, S => by
    obtain ⟨_, _, _, _, _, _, fdd, _, _, hT, _, _, _, _, hna⟩ := D.ex
    show (match T.fd f with | some fdd => runFd T (callN T j) fdd ds S | none => .bad) = .bad ∨ _
    rw [hT]
    unfold runFd
    have := hna c rfl
    by_cases h : ds.length = fdd.nargs
    · exact .inr (by omega)
    · exact .inl (if_neg h)
theorem mk_facts {m : Pm} {mg : Str → Option Value} {base : Heap} {n : Nm} {T : Tab} (Z : St0 m mg n T) (j : Nat)
    (sF : ∀ (f : Nat) (fa : Addr) (fd : FuncData) (ps : List Str), DefOk m n T f fa fd ps none → FnX m mg base (2 * j) fa fd ps (spF m (callN T j) f ps.length))
    (sK : ∀ (f c : Nat) (fa : Addr) (fd : FuncData) (ps : List Str), DefOk m n T f fa fd ps (some c) → 0 < ps.length → FnX m mg base (2 * j) fa fd ps (spK m (callN T j) f (ps.length - 1) c)) : Facts m mg base n T (callN T j) (2 * j) where
  free := Z.free
  gl := Z.gl
  fn := fun f x h => by
    obtain ⟨fa, fd, ps, h1, h2, D⟩ := Z.fn f x h
    exact ⟨fa, fd, ps, h1, h2, D.bnd, ar_of D j, sF f fa fd ps D⟩
  meth := fun f c x h => by
    obtain ⟨fa, fd, ps, h1, h2, h3, D⟩ := Z.meth f c x h
    exact ⟨fa, fd, ps, h1, h2, h3, D.bnd, ar_of D j, sF f fa fd ps D⟩
  ctor := fun f c h => by
    obtain ⟨fa, fd, ps, h1, h2, h3, D⟩ := Z.ctor f c h
    exact ⟨fa, fd, ps, h1, h2, D.bnd, h3, arK_of D j, sK f c fa fd ps D h3⟩
  prop := fun f c x h => by
    obtain ⟨h0, p, fa, fd, ps, h1, D⟩ := Z.prop f c x h
    exact ⟨h0, p, fa, fd, ps, h1, D.bnd, ar_of D j, sF f fa fd ps D⟩
  eq := fun f c h => by
    obtain ⟨h0, fa, fd, ps, h1, h2, D⟩ := Z.eq f c h
    exact ⟨h0, fa, fd, ps, h1, h2, D.bnd, ar_of D j, sF f fa fd ps D⟩
  cls := Z.cls
  exc := Z.exc
  nexc := Z.nexc
  mk0 := Z.mk0
  noSup := Z.noSup
  ncls := Z.ncls
  kobj := Z.kobj
theorem facts_all {m : Pm} {mg : Str → Option Value} {base : Heap} {n : Nm} {T : Tab} (Z : St0 m mg n T) : ∀ j, Facts m mg base n T (callN T j) (2 * j)
  | 0 => mk_facts Z 0
      (fun f fa fd ps D => ⟨fun vs H Q E h => by obtain ⟨_, _, _, _, _, hl, _⟩ := h; exact hl, fun A outer s H args us vs Q E hr e0 hb r h => by obtain ⟨_, _, _, _, _, _, post⟩ := h; exact post.elim⟩)
      (fun f c fa fd ps D hp => ⟨fun vs H Q E h => by
        obtain ⟨_, _, _, _, _, _, us, rfl, _, _, hl, _⟩ := h
        rw [List.length_cons, hl]
        omega, fun A outer s H args us vs Q E hr e0 hb r h => by obtain ⟨_, _, _, _, _, _, us, rfl, _, _, _, _, _, _, _, post⟩ := h; exact post.elim⟩)
  | j + 1 => mk_facts Z (j + 1) (fun f fa fd ps D => fn_sound (facts_all Z j) D) (fun f c fa fd ps D hp => ctor_sound (facts_all Z j) D hp)
end R

set_option maxHeartbeats 4000000
/-! A law as data; what is looked at behind the top; the static facts out of it. -/
namespace R
open PySem L2
structure DefE where
  kd : Kd
  name : Str
  qual : Str
  params : Arguments
  body : List Stmt
  scope : Scope
  N : List Str
  ps : List Str
  fd : Fd
structure LawD where
  defs : List DefE
  cn : List Str
  clsI : List Nat
  fields : Nat → List Str
  gls : List (Str × D)
  sub : List ((Nat × Nat) × Bool)
  mk0I : List Nat
  excI : List Nat
  free : List Str
namespace LawD
variable (L : LawD)
def nm : Nm where
  gn := fun g => (L.gls.getD g ("", .non)).1
  kd := fun f => (L.defs[f]?).map (·.kd)
  cn := fun c => L.cn.getD c ""
  cls := fun c => L.clsI.contains c
  mk0 := fun c => L.mk0I.contains c
  exc := fun c => L.excI.contains c
  free := L.free
def tab : Tab where
  gl := fun g => (L.gls[g]?).map (·.2)
  fd := fun f => (L.defs[f]?).map (·.fd)
  sub := fun k c => L.sub.lookup (k, c)
  nf := fun c => (L.fields c).length
  cls := fun c => L.clsI.contains c
  rx := fun _ ds => ds.isEmpty
/-- a class's place -/
def cl (K : PySem.W.Frag) (c : Nat) : Addr := He.ga K (L.nm.cn c)
def pm (P : Program) (w : World) (K : PySem.W.Frag) : Pm := ⟨P, w, K, L.cl K, L.fields⟩
/-- a def's place -/
def ad (K : PySem.W.Frag) : Kd → Addr
  | .glob x => He.ga K x
  | .meth c x => He.ma K (L.cl K c) x
  | .ctor c => He.ma K (L.cl K c) "__init__"
  | .eq c => He.ma K (L.cl K c) "__eq__"
  | .prop c x => (match PySem.W.recIn K (He.ma K (L.cl K c) x) "property" with
    | some (.ref g :: _) => g
    | _ => 0)
end LawD
/-! ### a def's object -/
def fnA (K : PySem.W.Frag) (a : Addr) : He.FnW := match K.lookup a with
  | some ⟨_, _, .func fd, _⟩ => some (fd.name, fd.qualname, fd.params, fd.body, fd.scope, fd.globals, fd.closure, fd.builtins)
  | _ => none
def DefE.val (e : DefE) : He.FnW := some (e.name, e.qual, e.params, .stmts e.body, e.scope, mainGlobals, [], builtinsNs)
def codB (K : PySem.W.Frag) (a : Addr) (q : Str) : Bool := PySem.W.keepIn K (.ref a) && (match K.lookup a with
  | some ⟨_, _, .func fd, _⟩ => PySem.W.codeIn K fd.code q && (match fd.defaults with
    | .none => true
    | _ => false)
  | _ => false)
theorem funD_of {K : PySem.W.Frag} {a : Addr} {e : DefE} (h : fnA K a = e.val) (c : codB K a e.qual = true) : ∃ fd, FunD K e.name e.qual e.params e.body e.scope [] [] a fd := by
  unfold codB at c
  obtain ⟨kp, c2⟩ := Bool.and_eq_true_iff.mp c
  unfold fnA at h
  split at h
  · rename_i oc od fd osl lk
    simp only [lk, Bool.and_eq_true] at c2
    obtain ⟨nn, qq, pp, bb, ss, gg, cc, dd, kk, d1, d2, d3, cdv, ct, bl⟩ := fd
    obtain ⟨c3, c4⟩ := c2
    have h : (some (nn, qq, pp, bb, ss, gg, cc, bl) : He.FnW) = some (e.name, e.qual, e.params, .stmts e.body, e.scope, mainGlobals, [], builtinsNs) := h
    simp only [Option.some.injEq, Prod.mk.injEq] at h
    obtain ⟨rfl, rfl, rfl, rfl, rfl, rfl, rfl, rfl⟩ := h
    cases dd with
    | none => exact ⟨_, ⟨oc, od, .none, kk, d1, d2, d3, cdv, ct, osl, rfl, lk, c3, .inl ⟨rfl, rfl⟩, .inl rfl⟩, kp⟩
    | _ => cases c4
  · cases h
/-! ### constants -/
mutual
def glV (K : PySem.W.Frag) : D → Value → Bool
  | .non, u => (match u with
    | .none => true
    | _ => false)
  | .bl b, u => (match u with
    | .bool c => decide (b = c)
    | _ => false)
  | .int i, u => (match u with
    | .int j _ => decide (i = j)
    | _ => false)
  | .str x, u => (match u with
    | .str y _ => decide (x = y)
    | _ => false)
  | .tup ds, u => (match u with
    | .ref p => (match K.lookup p with
      | some ⟨.type c, _, .seq its _, _⟩ => decide (c = "tuple") && decide (its.size ≤ sizeLine) && glVs K ds its.toList
      | _ => false)
    | _ => false)
  | .lst _, _ => false
  | .dct _, _ => false
  | .ins _ _, _ => false
  | .obj _, _ => false
  | .scr _, _ => false
def glVs (K : PySem.W.Frag) : List D → List Value → Bool
  | [], us => us.isEmpty
  | d :: ds, us => (match us with
    | u :: us => glV K d u && glVs K ds us
    | [] => false)
end
mutual
theorem glV_ok {m : Pm} : ∀ (d : D) (u : Value), glV m.K d u = true → ∃ v, RelV v u ∧ ∀ c, RD m c v d
  | .non, u, h => by
    unfold glV at h
    split at h
    · exact ⟨.non, rfl, fun c => .non⟩
    · cases h
  | .bl b, u, h => by
    unfold glV at h
    split at h
    · cases of_decide_eq_true h
      exact ⟨.bl b, rfl, fun c => .bl b⟩
    · cases h
  | .int i, u, h => by
    unfold glV at h
    split at h
    · cases of_decide_eq_true h
      exact ⟨.int i, ⟨_, rfl⟩, fun c => .int i⟩
    · cases h
  | .str x, u, h => by
    unfold glV at h
    split at h
    · cases of_decide_eq_true h
      exact ⟨.str x, ⟨_, rfl⟩, fun c => .str x⟩
    · cases h
  | .tup ds, u, h => by
    unfold glV at h
    split at h
    · rename_i p
      split at h
      · rename_i cc od its n sl lk
        simp only [Bool.and_eq_true, decide_eq_true_eq] at h
        obtain ⟨⟨rfl, h1⟩, h2⟩ := h
        obtain ⟨vs, r, k⟩ := glVs_ok ds its.toList h2
        exact ⟨.ref p, rfl, fun c => .tup (.inr ⟨_, its, n, lk, rfl, rfl, h1, r⟩) (k c)⟩
      · cases h
    · cases h
  | .lst _, u, h => by unfold glV at h; cases h
  | .dct _, u, h => by unfold glV at h; cases h
  | .ins _ _, u, h => by unfold glV at h; cases h
  | .obj _, u, h => by unfold glV at h; cases h
  | .scr _, u, h => by unfold glV at h; cases h
theorem glVs_ok {m : Pm} : ∀ (ds : List D) (us : List Value), glVs m.K ds us = true → ∃ vs, Vals vs us ∧ ∀ c, RDs m c vs ds
  | [], us, h => by
    unfold glVs at h
    cases us with
    | nil => exact ⟨[], .nil, fun c => .nil⟩
    | cons _ _ => cases h
  | d :: ds, us, h => by
    unfold glVs at h
    split at h
    · rename_i u us
      obtain ⟨h1, h2⟩ := Bool.and_eq_true_iff.mp h
      obtain ⟨v, r, k⟩ := glV_ok d u h1
      obtain ⟨vs, rs, ks⟩ := glVs_ok ds us h2
      exact ⟨v :: vs, .cons r rs, fun c => .cons (k c) (ks c)⟩
    · cases h
end
/-! ### classes -/
def eqB (K : PySem.W.Frag) (C : Addr) (x : Str) (v : Option Value) : Bool := decide (PySem.W.findIn K (.ref C) x = some v)
def clsB (L : LawD) (K : PySem.W.Frag) (c : Nat) : Bool :=
  (He.Fa.cls (L.nm.cn c)).ok K && ((L.fields c).all fun x => eqB K (L.cl K c) x none) && decide (L.fields c).Nodup && decide ((L.fields c).length < 1000) &&
  (["int", "bool", "str", "tuple", "list", "dict"].all fun s => decide (PySem.W.kitOne K (.ref (L.cl K c)) (.type s) = some false)) &&
  (tyNames.all fun s => decide (PySem.W.kitOne K (.type s) (.ref (L.cl K c)) = some false) && PySem.W.notFirst K (L.cl K c) (.type s)) &&
  (L.clsI.all fun c' => decide (PySem.W.kitOne K (.ref (L.cl K c')) (.ref (L.cl K c)) = some (c' == c)) && PySem.W.notFirst K (L.cl K c) (.ref (L.cl K c'))) &&
  eqB K (L.cl K c) "__class__" (some (.builtin "object.__class__")) && decide (PySem.W.mroIn K (L.cl K c) (.type "object") = some true) && (He.Fa.glo (L.nm.cn c)).ok K
theorem clsB_ok {L : LawD} {P : Program} {w : World} {K : PySem.W.Frag} {c : Nat} {h : Heap} {mg : Str → Option Value} (X : K.In h) (G : h.Ns mainGlobals mg) (b : clsB L K c = true) : ClsF (L.pm P w K) L.nm L.tab c ∧ mg (L.nm.cn c) = some (.ref (L.cl K c)) := by
  unfold clsB at b
  simp only [Bool.and_eq_true, List.all_eq_true, decide_eq_true_eq] at b
  obtain ⟨⟨⟨⟨⟨⟨⟨⟨⟨b1, b2⟩, b3⟩, b4⟩, b5⟩, b6⟩, b7⟩, b8⟩, b9⟩, b10⟩ := b
  refine ⟨⟨He.cls_ok b1, fun x hx => of_decide_eq_true (p := PySem.W.findIn K (.ref (L.cl K c)) x = some none) (b2 x hx), b3, b4, fun t s e => b5 s ?_, b6, fun c' hc => b7 c' (List.contains_iff_mem.mp hc), of_decide_eq_true b8, b9⟩, He.glo_ok X G b10⟩
  match t with
  | 0 => cases e; simp
  | 1 => cases e; simp
  | 2 => cases e; simp
  | 3 => cases e; simp
  | 4 => cases e; simp
  | 5 => cases e; simp
  | n + 6 => cases e
/-! ### exceptions -/
def excCB (K : PySem.W.Frag) (C : Addr) : Bool := eqB K C "__getattribute__" (some (.builtin "BaseException.__getattribute__")) && eqB K C "__getattr__" none && decide (PySem.W.subIn K (.ref C) (.type "BaseException") = some true) && PySem.W.hasDictIn K C &&
  eqB K C "__class__" (some (.builtin "object.__class__")) && decide (PySem.W.specialIn K (.builtin "object.__class__") "__get__" = some (some (.builtin "getset_descriptor.__get__"))) && decide (PySem.W.takesIn K (.builtin "object.__class__") = some true) && decide (PySem.W.mroIn K C (.type "object") = some true)
theorem excCB_ok {K : PySem.W.Frag} {C : Addr} (b : excCB K C = true) : L2.ExcC K C := by
  unfold excCB eqB at b
  simp only [Bool.and_eq_true, decide_eq_true_eq] at b
  obtain ⟨⟨⟨⟨⟨⟨⟨b1, b2⟩, b3⟩, b4⟩, b5⟩, b6⟩, b7⟩, b8⟩ := b
  exact ⟨b1, b2, b3, b4, b5, b6, b7, b8⟩
def oexB (K : PySem.W.Frag) (C : Addr) : Bool := (match K.lookup C with
  | some ⟨.type t, _, .cls cd, sl⟩ => decide (t = "type") && cd.hasDict && !cd.hasDel && (match cd.mro, sl.toList with
    | .ref c :: bm, [_, _, _, _, some (.builtin i), _] => decide (c = C) && PySem.HandSPX.refsVE bm && decide (i = "ValueError.__new__")
    | _, _ => false)
  | _ => false) && eqB K C "__setattr__" (some (.builtin "object.__setattr__")) && decide (PySem.W.subIn K (.ref C) (.type "BaseException") = some true) && decide (PySem.W.typeIn K (.ref C) = some (.type "type")) && PySem.W.keepIn K (.ref C)
theorem oexB_ok {K : PySem.W.Frag} {C : Addr} (b : oexB K C = true) : OexC K C := by
  unfold oexB eqB at b
  simp only [Bool.and_eq_true, decide_eq_true_eq] at b
  obtain ⟨⟨⟨⟨b1, b2⟩, b3⟩, b4⟩, b5⟩ := b
  refine ⟨?_, b2, b3, b4, b5⟩
  split at b1
  · rename_i t od cd sl lk
    simp only [Bool.and_eq_true, decide_eq_true_eq, Bool.not_eq_true'] at b1
    obtain ⟨⟨⟨rfl, h1⟩, h2⟩, h3⟩ := b1
    split at h3
    · rename_i c bm k0 k1 k2 k3 i k5 hm hs
      simp only [Bool.and_eq_true, decide_eq_true_eq] at h3
      obtain ⟨⟨rfl, h4⟩, rfl⟩ := h3
      obtain ⟨nm, bs, mro, ns, qn, hd, sn, sub, ab, col, del⟩ := cd
      dsimp only at hm h1 h2
      subst hm h1 h2
      obtain ⟨l⟩ := sl
      simp only at hs
      subst hs
      exact ⟨nm, qn, ns, bs, bm, sn, sub, ab, col, od, k0, k1, k2, k3, k5, lk, h4⟩
    · cases h3
  · cases b1
/-- a class of exceptions made without arguments: its __init__ says super().__init__('..') -/
def supB (K : PySem.W.Frag) (file : Str) (C : Addr) : Bool := oexB K C && (match K.lookup (He.ma K C "__init__") with
  | some ⟨_, _, .func fd, _⟩ => (match fd.body, fd.closure, fd.code with
    | .stmts [.Expr (.Call (.Attribute (.Call (.Name s _) [] [] _) i p2) [.Constant (.str _) _ _] [] p4) _], [(c, cc)], .ref cda =>
      decide (s = "super") && decide (i = "__init__") && (p2.endLine == p4.line) && decide (c = "__class__") && decide (fd.globals = mainGlobals) && decide (fd.builtins = builtinsNs) && PySem.W.codeIn K (.ref cda) fd.qualname &&
      (match K.lookup cda with
        | some ⟨_, _, .fields vs, _⟩ => (match (vs[2]? : Option Value) with
          | some (.str f _) => decide (f = file)
          | _ => false)
        | _ => false) &&
      (match K.lookup cc with
        | some ⟨_, _, .cell (some (.ref D)), _⟩ => decide (D = C)
        | _ => false) &&
      (match fd.params with
        | ⟨[], [a], none, [], [], none, []⟩ => decide (a.arg = "self")
        | _ => false)
    | _, _, _ => false) && (match fd.defaults with
      | .none => true
      | _ => false) && decide (fd.scope.names.lookup ("super" : Str) = some .globalImplicit) && decide (fd.scope.names.lookup ("__class__" : Str) = some .free) && decide (fd.scope.names.lookup ("self" : Str) = some .local) &&
      (fd.scope.names.all fun x => decide (x.2 ≠ .cell)) && !fd.scope.isCoroutine && !fd.scope.isGenerator && (match fd.scope.kind with
      | .function => true
      | _ => false)
  | _ => false) && eqB K C "__init__" (some (.ref (He.ma K C "__init__"))) && decide (PySem.W.typeIn K (.ref (He.ma K C "__init__")) = some (.type "function")) &&
  decide (PySem.W.ks_superIn K C C "__init__" = some (some (.builtin "ValueError.__init__"))) && decide (PySem.W.subIn K (.ref C) (.type "ValueError") = some true) && decide (PySem.W.mroIn K C (.ref C) = some true) && decide (PySem.W.nsIn K cStatics "thirdparty.any" = some none)
end R

set_option maxHeartbeats 4000000
/-! The static facts, out of what was looked at. -/
namespace R
open PySem L2
theorem supB_ok {K : PySem.W.Frag} {file : Str} {C : Addr} (h : supB K file C = true) : ∃ (fI : Addr) (scope : Scope) (fd : FuncData) (x : Str) (j : Nat) (p0 p1 p2 p3 p4 p5 : Pos), (p2.endLine == p4.line) = true ∧
    SupF K file C fI [.Expr (.Call (.Attribute (.Call (.Name "super" p0) [] [] p1) "__init__" p2) [.Constant (.str x) j p3] [] p4) p5] scope fd := by
  unfold supB eqB at h
  simp only [Bool.and_eq_true, decide_eq_true_eq] at h
  obtain ⟨⟨⟨⟨⟨⟨⟨h1, h2⟩, h3⟩, h4⟩, h5⟩, h6⟩, h7⟩, h8⟩ := h
  split at h2
  · rename_i oc od fd osl lk
    simp only [Bool.and_eq_true, decide_eq_true_eq, Bool.not_eq_true'] at h2
    obtain ⟨⟨⟨⟨⟨⟨⟨⟨b0, b1⟩, b2⟩, b3⟩, b4⟩, b5⟩, b6⟩, b7⟩, b8⟩ := h2
    obtain ⟨name, qual, params, body, scope, glob, clos, dV, kV, doc, pm, an, cdv, ct, bl⟩ := fd
    dsimp only at b0 b1 b2 b3 b4 b5 b6 b7 b8
    split at b0
    · rename_i s p0 p1 i p2 x j p3 p4 p5 c cc cda
      simp only [Bool.and_eq_true, decide_eq_true_eq] at b0
      obtain ⟨⟨⟨⟨⟨⟨⟨⟨⟨rfl, rfl⟩, c1⟩, rfl⟩, rfl⟩, rfl⟩, c2⟩, c3⟩, c4⟩, c5⟩ := b0
      split at c3
      · rename_i ccl cdd vs ccs lc
        split at c3
        · rename_i f tf hvs
          have hf : f = file := of_decide_eq_true c3
          subst hf
          split at c4
          · rename_i clx cld D csl lcc
            have hD : D = C := of_decide_eq_true c4
            subst hD
            split at c5
            · rename_i a
              have ha : a.arg = "self" := of_decide_eq_true c5
              split at b1
              · have hk : scope.kind = .function := by
                  split at b8
                  · assumption
                  · cases b8
                refine ⟨_, scope, _, x, j, p0, p1, p2, p3, p4, p5, c1, ⟨oexB_ok h1, h3, h4, ⟨oc, od, osl, name, qual, _, .none, kV, doc, pm, ct, an, cda, cc, ccl, cdd, vs, ccs, tf, clx, cld, csl, a, rfl, lk, c2, lc, hvs, lcc, rfl, ha⟩, ?_, h5, h6, h7, h8, b2, b3, b4, ?_, b6, b7, hk⟩⟩
                · obtain ⟨an1, an2, an3⟩ := a
                  dsimp only at ha
                  subst ha
                  refine .all fun us hl => ?_
                  match us, hl with
                  | [u], _ => rfl
                · intro y hy
                  have := List.all_eq_true.mp b5 y hy
                  exact of_decide_eq_true this
              · cases b1
            · cases c5
          · cases c4
        · cases c3
      · cases c3
    · cases b0
  · cases h2
end R
namespace R
open PySem L2
/-- what is looked at, of a def -/
def defB (L : LawD) (K : PySem.W.Frag) (e : DefE) : Bool := codB K (L.ad K e.kd) e.qual && (match e.kd with
  | .glob x => (He.Fa.glo x).ok K
  | .meth c x => (He.Fa.meth (L.nm.cn c) x).ok K && (He.Fa.cls (L.nm.cn c)).ok K && !(L.fields c).contains x && decide (PySem.W.specialIn K (.ref (He.ma K (L.cl K c) x)) "__get__" = some (some (.builtin "function.__get__"))) && decide (PySem.W.takesIn K (.ref (He.ma K (L.cl K c) x)) = some false) && !PySem.W.copiedNames.contains x && PySem.W.fnIn K (He.ma K (L.cl K c) x)
  | .ctor c => (He.Fa.glo (L.nm.cn c)).ok K && (He.Fa.mkr (L.nm.cn c)).ok K
  | .eq c => L.clsI.contains c && eqB K (L.cl K c) "__eq__" (some (.ref (L.ad K e.kd))) && PySem.W.isFn K (.ref (L.ad K e.kd))
  | .prop c x => L.clsI.contains c && eqB K (L.cl K c) x (some (.ref (He.ma K (L.cl K c) x))) && decide (PySem.W.specialIn K (.ref (He.ma K (L.cl K c) x)) "__get__" = some (some (.builtin "property.__get__"))) &&
    decide (PySem.W.takesIn K (.ref (He.ma K (L.cl K c) x)) = some true) && (match PySem.W.recIn K (He.ma K (L.cl K c) x) "property" with
      | some (.ref _ :: _) => true
      | _ => false))
/-- what is looked at, of the law -/
def exB (L : LawD) (file : Str) (K : PySem.W.Frag) : Bool :=
  (L.free.all fun x => (He.Fa.free x).ok K) && (He.Fa.free "super").ok K &&
  (L.gls.all fun g => match PySem.W.nsIn K mainGlobals g.1 with
    | some (some u) => glV K g.2 u
    | _ => false) &&
  (L.clsI.all fun c => clsB L K c) &&
  (L.sub.all fun s => excCB K (L.cl K s.1.1) && decide (PySem.W.kitOne K (.ref (L.cl K s.1.1)) (.ref (L.cl K s.1.2)) = some s.2) && decide (PySem.W.exmOne K (.ref (L.cl K s.1.1)) (.ref (L.cl K s.1.2)) = some s.2)) &&
  (L.excI.all fun c => (He.Fa.glo (L.nm.cn c)).ok K) &&
  (L.mk0I.all fun c => (L.fields c).isEmpty && (He.Fa.glo (L.nm.cn c)).ok K && supB K file (L.cl K c)) &&
  decide (PySem.W.specialIn K (.builtin "object.__class__") "__get__" = some (some (.builtin "getset_descriptor.__get__"))) && decide (PySem.W.takesIn K (.builtin "object.__class__") = some true) &&
  (L.defs.all fun e => defB L K e)
/-- the text's part -/
def scpB (e : DefE) : Bool := (match e.scope.kind with
  | .function => true
  | _ => false) && !e.scope.isCoroutine && !e.scope.isGenerator && decide e.N.Nodup && decide (e.N.take e.ps.length = e.ps) && (e.ps.all fun x => decide (e.scope.names.lookup x = some .local) || decide (e.scope.names.lookup x = some .cell)) && (e.scope.names.all fun y => decide (y.2 ≠ .free))
theorem scpB_ok {e : DefE} (h : scpB e = true) : FnScope e.N e.ps e.scope := by
  unfold scpB at h
  simp only [Bool.and_eq_true, Bool.not_eq_true', List.all_eq_true, Bool.or_eq_true, decide_eq_true_eq] at h
  obtain ⟨⟨⟨⟨⟨⟨h1, h2⟩, h3⟩, h4⟩, h5⟩, h6⟩, h7⟩ := h
  refine ⟨?_, h2, h3, h4, h5, h6, h7⟩
  split at h1
  · assumption
  · cases h1
def ctB (e : DefE) : Bool := match e.kd with
  | .ctor c => (match e.fd.ctor with
    | some c' => decide (c' = c) && decide (e.fd.nargs + 1 = e.ps.length) && decide (0 < e.ps.length)
    | none => false)
  | _ => (match e.fd.ctor with
    | none => decide (e.fd.nargs = e.ps.length)
    | some _ => false)
def statB (L : LawD) (e : DefE) : Bool := scpB e && decide (e.fd.nslots = e.N.length) && ctB e && chkB L.nm L.fields e.N e.fd.body e.scope false e.body
def BndOk (e : DefE) : Prop := ∀ (kV doc pm : Value) (an : Option Addr) (cdv ct : Value) (us : List Value), us.length = e.ps.length → bindArgs (PySem.W.fnOf e.name e.qual e.params e.body e.scope .none kV doc pm an cdv ct) ⟨us, []⟩ = pure (e.ps.zip us)
def AllD (p : DefE → Prop) : List DefE → Prop
  | [] => True
  | e :: es => p e ∧ AllD p es
theorem AllD.mem {p : DefE → Prop} : ∀ {l : List DefE} {e : DefE}, AllD p l → e ∈ l → p e
  | _ :: _, _, ⟨h, _⟩, .head _ => h
  | _ :: _, _, ⟨_, h⟩, .tail _ m => AllD.mem h m
theorem sub_mem {k : Nat × Nat} {b : Bool} : ∀ {l : List ((Nat × Nat) × Bool)}, l.lookup k = some b → (k, b) ∈ l
  | [], h => by simp at h
  | (q, v) :: l, h => by
    rw [List.lookup_cons] at h
    cases e : k == q with
    | true =>
      rw [e] at h
      cases h
      rw [beq_iff_eq] at e
      subst e
      exact List.mem_cons_self
    | false =>
      rw [e] at h
      exact List.mem_cons_of_mem _ (sub_mem h)
section
variable {L : LawD} {P : Program} {w : World} {K : PySem.W.Frag} {h : Heap} {mg : Str → Option Value} {f : Nat} {e : DefE}
theorem def_ok (hb : AllD BndOk L.defs) (hs : AllD (fun e => statB L e = true) L.defs) (ho : L.defs.map (fun e => fnA K (L.ad K e.kd)) = L.defs.map DefE.val) (hx : (L.defs.all fun e => defB L K e) = true) (he : L.defs[f]? = some e) :
    ∃ fd, DefOk (L.pm P w K) L.nm L.tab f (L.ad K e.kd) fd e.ps e.fd.ctor ∧ PySem.W.keepIn K (.ref (L.ad K e.kd)) = true ∧ ctB e = true ∧ defB L K e = true := by
  have hm := List.mem_of_getElem? he
  have d := List.all_eq_true.mp hx e hm
  have s := AllD.mem hs hm
  have b := AllD.mem hb hm
  have o : fnA K (L.ad K e.kd) = e.val := by
    have e2 : (L.defs.map fun e => fnA K (L.ad K e.kd))[f]? = (L.defs.map DefE.val)[f]? := by rw [ho]
    rw [List.getElem?_map, List.getElem?_map, he] at e2
    exact Option.some.inj e2
  have hc : codB K (L.ad K e.kd) e.qual = true := (Bool.and_eq_true_iff.mp d).1
  obtain ⟨fd, FD⟩ := funD_of o hc
  unfold statB at s
  simp only [Bool.and_eq_true, decide_eq_true_eq] at s
  obtain ⟨⟨⟨s1, s2⟩, s3⟩, s4⟩ := s
  refine ⟨fd, ⟨FD.bindsN b, e.name, e.qual, e.params, e.body, e.scope, e.N, e.fd, FD, scpB_ok s1, ?_, rfl, s2, s4, fun z => ?_, fun c z => ?_⟩, FD.kp, s3, d⟩
  · show (L.defs[f]?).map (·.fd) = some e.fd
    rw [he]
    rfl
  · unfold ctB at s3
    split at s3
    · rw [z] at s3; cases s3
    · rw [z] at s3; exact of_decide_eq_true s3
  · unfold ctB at s3
    split at s3
    · rw [z] at s3
      simp only [Bool.and_eq_true, decide_eq_true_eq] at s3
      exact s3.1.2
    · rw [z] at s3; cases s3
theorem kd_of {kd : Kd} (h : L.nm.kd f = some kd) : ∃ e, L.defs[f]? = some e ∧ e.kd = kd := by
  obtain ⟨e, h1, h2⟩ := Option.map_eq_some_iff.mp (show (L.defs[f]?).map (·.kd) = some kd from h)
  exact ⟨e, h1, h2⟩
theorem ct_none (h : ctB e = true) (hk : ∀ c, e.kd ≠ .ctor c) : e.fd.ctor = none := by
  unfold ctB at h
  split at h
  · rename_i c hc; exact absurd hc (hk c)
  · split at h
    · assumption
    · cases h
theorem st0_of (X : K.In h) (G : h.Ns mainGlobals mg) (htop : (P.main.scope.names.lookup ("super" : Str)).isSome = false) (hb : AllD BndOk L.defs) (hs : AllD (fun e => statB L e = true) L.defs)
    (ho : L.defs.map (fun e => fnA K (L.ad K e.kd)) = L.defs.map DefE.val) (hx : exB L P.main.file K = true) : St0 (L.pm P w K) mg L.nm L.tab := by
  unfold exB at hx
  simp only [Bool.and_eq_true, List.all_eq_true, decide_eq_true_eq] at hx
  obtain ⟨⟨⟨⟨⟨⟨⟨⟨⟨x1, x2⟩, x3⟩, x4⟩, x5⟩, x6⟩, x7⟩, x8⟩, x9⟩, x10⟩ := hx
  have D := fun {f : Nat} {e : DefE} (he : L.defs[f]? = some e) => def_ok (P := P) (w := w) hb hs ho (List.all_eq_true.mpr x10) he
  refine ⟨fun x hx => He.free_ok X G (x1 x hx), fun g d hg => ?_, fun f x hk => ?_, fun f c x hk => ?_, fun f c hk => ?_, fun f c x hk => ?_, fun f c hk => ?_, fun c hc => clsB_ok X G (x4 c (List.contains_iff_mem.mp hc)), fun k c b hs => ?_, fun c hc => He.glo_ok X G (x6 c (List.contains_iff_mem.mp hc)), fun c hc => ?_, ⟨He.free_ok X G x2, htop⟩, fun c hc => hc, ⟨x8, x9⟩⟩
  · obtain ⟨p, h1, h2⟩ := Option.map_eq_some_iff.mp (show (L.gls[g]?).map (·.2) = some d from hg)
    have z := x3 p (List.mem_of_getElem? h1)
    have hn : L.nm.gn g = p.1 := by
      show (L.gls.getD g ("", .non)).1 = p.1
      rw [List.getD_eq_getElem?_getD, h1]
      rfl
    split at z
    · rename_i u hu
      obtain ⟨v, r, k⟩ := glV_ok (m := L.pm P w K) p.2 u z
      subst h2
      refine ⟨u, v, ?_, r, k⟩
      rw [hn]
      exact PySem.W.mg_of X G hu
    · cases z
  · obtain ⟨e, he, hk⟩ := kd_of hk
    obtain ⟨fd, d, kp, ct, db⟩ := D he
    have hc := ct_none ct (by rw [hk]; intro c z; cases z)
    rw [hc] at d
    unfold defB at db
    rw [hk] at d db kp
    exact ⟨_, fd, e.ps, He.glo_ok X G (Bool.and_eq_true_iff.mp db).2, kp, d⟩
  · obtain ⟨e, he, hk⟩ := kd_of hk
    obtain ⟨fd, d, kp, ct, db⟩ := D he
    have hc := ct_none ct (by rw [hk]; intro c z; cases z)
    rw [hc] at d
    unfold defB at db
    rw [hk] at d db
    simp only [Bool.and_eq_true, Bool.not_eq_true', decide_eq_true_eq] at db
    refine ⟨_, fd, e.ps, ⟨He.meth_ok db.2.1.1.1.1.1.1, db.2.1.1.1.2, db.2.1.1.2, db.2.1.2, db.2.2⟩, He.cls_ok db.2.1.1.1.1.1.2, ?_, d⟩
    intro z
    have := List.contains_iff_mem.mpr z
    rw [show (L.pm P w K).fn c = L.fields c from rfl, db.2.1.1.1.1.2] at this
    cases this
  · obtain ⟨e, he, hk⟩ := kd_of hk
    obtain ⟨fd, d, kp, ct, db⟩ := D he
    unfold ctB at ct
    unfold defB at db
    rw [hk] at d db ct
    simp only at ct
    split at ct
    · rename_i c' hc
      simp only [Bool.and_eq_true, decide_eq_true_eq] at ct db
      rw [hc, ct.1.1] at d
      exact ⟨_, fd, e.ps, He.glo_ok X G db.2.1, He.mkr_ok db.2.2, ct.2, d⟩
    · cases ct
  · obtain ⟨e, he, hk⟩ := kd_of hk
    obtain ⟨fd, d, kp, ct, db⟩ := D he
    have hc := ct_none ct (by rw [hk]; intro c z; cases z)
    rw [hc] at d
    unfold defB eqB at db
    rw [hk] at d db
    simp only [Bool.and_eq_true, decide_eq_true_eq] at db
    obtain ⟨_, ⟨⟨⟨h1, h2⟩, h3⟩, h4⟩, h5⟩ := db
    refine ⟨h1, _, _, fd, e.ps, ⟨h2, h3, h4, ?_⟩, d⟩
    unfold LawD.ad
    simp only
    split at h5
    · rename_i g rest hr
      refine ⟨rest, ?_⟩
      show PySem.W.recIn K _ "property" = _
      rw [hr]
    · cases h5
  · obtain ⟨e, he, hk⟩ := kd_of hk
    obtain ⟨fd, d, kp, ct, db⟩ := D he
    have hc := ct_none ct (by rw [hk]; intro c z; cases z)
    rw [hc] at d
    unfold defB eqB at db
    rw [hk] at d db
    simp only [Bool.and_eq_true, decide_eq_true_eq] at db
    exact ⟨db.2.1.1, _, fd, e.ps, db.2.1.2, db.2.2, d⟩
  · have hmem : ((k, c), b) ∈ L.sub := by
      exact sub_mem (show L.sub.lookup (k, c) = some b from hs)
    have z := x5 _ hmem
    exact ⟨excCB_ok z.1.1, z.1.2, z.2⟩
  · have z := x7 c (List.contains_iff_mem.mp hc)
    exact ⟨List.isEmpty_iff.mp z.1.1, He.glo_ok X G z.1.2, supB_ok z.2⟩
/-! ### the Hook -/
abbrev AlR : Type := Bool × List He.FnW
def obsR (L : LawD) (file : Str) (K : PySem.W.Frag) : AlR := (exB L file K, L.defs.map fun e => fnA K (L.ad K e.kd))
def valR (L : LawD) : AlR := (true, L.defs.map DefE.val)
/-- what is followed: code, closure cells, a class's names, a property's getter, items -/
def refsR (o : Obj) : List Addr := match o.data with
  | .seq its _ => its.toList.flatMap He.refV
  | .dict es _ => es.toList.flatMap fun e => He.refV e.val
  | .func fd => He.refV fd.code ++ fd.closure.map (·.2)
  | .cls cd => [cd.ns]
  | .fields vs => (match o.cls with
    | .type n => if n = "property" then vs.toList.flatMap He.refV else []
    | _ => [])
  | _ => []
def goR (g : Addr → Option Obj) : Nat → List Addr → List Addr
  | 0, as => as
  | n + 1, as => as ++ goR g n (as.flatMap fun a => match g a with
    | some o => refsR o
    | none => [])
def obsRG (L : LawD) (file : Str) (n : Nat) (g : Addr → Option Obj) : AlR := obsR L file (He.frG g (cStatics :: goR g n [mainGlobals]))
def hookR (L : LawD) (file : Str) (n : Nat) : PySem.W.Hook where
  α := AlR
  obs := fun s => obsRG L file n s.heap.get?
  val := fun _ => valR L
  says := fun _ h => ∃ K : PySem.W.Frag, K.In h ∧ obsR L file K = valR L
  of := fun _ _ e => ⟨_, He.frG_in, e⟩
  keeps := fun _ _ _ ⟨K, hK, c⟩ k => ⟨K, PySem.W.Frag.In.keeps hK k, c⟩
theorem obsRG_eq {file : Str} {n : Nat} {g : Addr → Option Obj} {s : Shared} (q : ∀ a, g a = s.heap.get? a) : obsRG L file n g = (hookR L file n).obs s := by
  rw [show g = s.heap.get? from funext q]
  rfl
end
end R

set_option maxHeartbeats 4000000
/-! The law's walk, out of the interpreter's answer. -/
namespace R
open PySem L2
theorem no_way {P : Program} {w : World} {H : Hp} {s s' : Shared} {e : Value} (h : L2.CX P w [] H s (fun _ _ _ => False) e s') : False := by
  obtain ⟨_, _, _, _, _, _, _, _, _, _, _, _, z⟩ := h
  exact z
theorem walk_R {l : PySem.W.OpenLaw} {L : LawD} {n j fl step : Nat} {q : Program} {loose : List Str} {XP : (Str → Option Value) → Heap → Prop} {d : DefRec} {e : DefE} {x : Str}
    (most : l.most = some n) (small : n ≤ sizeLine) (dfl : d.params.defaults = []) (room : Room (2 * j + 2) callerA) (top : (l.prog.main.scope.names.lookup ("super" : Str)).isSome = false)
    (bnd : AllD BndOk L.defs) (stat : AllD (fun e => statB L e = true) L.defs) (he : L.defs[fl]? = some e) (hk : e.kd = .glob d.name) (hps : e.ps = [x]) (hct : e.fd.ctor = none)
    (law : ∀ ns : List Int, ns.length ≤ n → ∃ S, runFd L.tab (callN L.tab j) e.fd [.scr (ns.map D.int)] [] = .ok (.val (.bl true)) S) :
    PySem.W.WalkO q loose XP (hookR L l.prog.main.file step).says l.row.toRowW d [] (fun f vs => PySem.call f vs) := by
  apply Att.attach_call most dfl
  intro w t0 t1 mg mb fa o pm cd doc a vs ns G Y ho hd hcd hmg hobj hints hlen hg
  obtain ⟨K, KX, c⟩ := Y
  have c1 : exB L l.prog.main.file K = true := congrArg Prod.fst c
  have c2 : L.defs.map (fun e => fnA K (L.ad K e.kd)) = L.defs.map DefE.val := congrArg Prod.snd c
  have Z := st0_of (P := l.prog) (w := w) KX G.T.g top bnd stat c2 c1
  have hall : (L.defs.all fun e => defB L K e) = true := by
    unfold exB at c1
    exact (Bool.and_eq_true_iff.mp c1).2
  obtain ⟨fd, dok, kp, _, db⟩ := def_ok (P := l.prog) (w := w) bnd stat c2 hall he
  have hfa : L.ad K e.kd = fa := by
    unfold defB at db
    rw [hk] at db ⊢
    have z := He.glo_ok KX G.T.g (Bool.and_eq_true_iff.mp db).2
    exact Value.ref.inj (Option.some.inj (z.symm.trans hmg))
  rw [hct, hfa, hps] at dok
  have bindA : ∀ (s : Shared) (u : Value), BindsTo s fd ⟨[u], []⟩ [(x, u)] := by
    intro s u
    obtain ⟨fd', FD⟩ := funD_of (K := K) (a := L.ad K e.kd) (e := e) (by
      have e2 : (L.defs.map fun e => fnA K (L.ad K e.kd))[fl]? = (L.defs.map DefE.val)[fl]? := by rw [c2]
      rw [List.getElem?_map, List.getElem?_map, he] at e2
      exact Option.some.inj e2) (Bool.and_eq_true_iff.mp db).1
    have b := FD.bindsA (AllD.mem bnd (List.mem_of_getElem? he)) s [u] (by rw [hps]; rfl)
    rw [hps] at b
    obtain ⟨_, _, _, _, _, _, _, FD2, _⟩ := dok.ex
    obtain ⟨oc, od, dV, kV, dc, pm2, an, cdv, ct, osl, e1, lk, _⟩ := FD.ex
    obtain ⟨oc2, od2, dV2, kV2, dc2, pm3, an2, cdv2, ct2, osl2, e12, lk2, _⟩ := FD2.ex
    rw [hfa] at lk
    have lk3 := lk.symm.trans lk2
    cases lk3
    exact b
  refine law_call KX G.T.g G.T.b G.T.builtins G.T.nolimit hg hobj hints (Nat.le_trans hlen small) room (sp := spF (L.pm l.prog w K) (callN L.tab (j + 1)) fl [x].length) (fun base hb1 hb2 => fn_sound (facts_all Z j) dok) bindA (fun H hO hS => ?_) (fun H e s' z => no_way z)
  obtain ⟨S, hr⟩ := law ns hlen
  refine ⟨⟨H, []⟩, [.scr (ns.map D.int)], [], ⟨fun _ _ h => h, rfl, fun n a o h => (by simp at h), fun a h => (by cases h), List.nodup_nil⟩, .cons (.scr hS (scrR ns)) .nil, rfl, ?_⟩
  have hT : callN L.tab (j + 1) fl [.scr (ns.map D.int)] [] = runFd L.tab (callN L.tab j) e.fd [.scr (ns.map D.int)] [] := by
    show (match L.tab.fd fl with | some fdd => runFd L.tab (callN L.tab j) fdd [.scr (ns.map D.int)] [] | none => .bad) = _
    rw [show L.tab.fd fl = some e.fd from by show (L.defs[fl]?).map (·.fd) = _; rw [he]; rfl]
  rw [hT, hr]
  intro c' H' v _ _ r
  cases r with
  | val r => cases r; rfl
where
  scrR {m : Pm} {c : Cfg} : ∀ ns : List Int, RDs m c (ns.map V.int) (ns.map D.int)
    | [] => .nil
    | i :: ns => .cons (.int i) (scrR ns)
end R

set_option maxHeartbeats 1000000
/-! The interpreter step by step. -/
namespace R
open PySem
section
variable {X : Tab} {C : Calls} {ρ ρ1 ρ2 : REnv} {S S1 S2 S3 : Store} {a b c e : E} {s t u : T} {es : Es} {ra rb r : Rv} {x y d : D} {i j n : Nat} {o : OutS}
theorem ex_seq (h : exT X C s ρ S = .nx ρ1 S1) : exT X C (.seq s t) ρ S = exT X C t ρ1 S1 := by
  rw [exT, h]
  rfl
theorem ex_seqR (h : exT X C s ρ S = .rt r S1) : exT X C (.seq s t) ρ S = .rt r S1 := by
  rw [exT, h]
  rfl
theorem ex_iteT (h : evE X C c ρ S = .ok (.val (.bl true)) S1) : exT X C (.ite c s t) ρ S = exT X C s ρ S1 := by
  rw [exT, h]
  rfl
theorem ex_iteF (h : evE X C c ρ S = .ok (.val (.bl false)) S1) : exT X C (.ite c s t) ρ S = exT X C t ρ S1 := by
  rw [exT, h]
  rfl
theorem ex_ite (q : Bool) (h : evE X C c ρ S = .ok (.val (.bl q)) S1) : exT X C (.ite c s t) ρ S = if q = true then exT X C s ρ S1 else exT X C t ρ S1 := by
  rw [exT, h]
  cases q <;> rfl
theorem ex_asg (h : evE X C e ρ S = .ok r S1) (h1 : r.frz = some d) (h2 : free1 ρ i = true) : exT X C (.asg i e) ρ S = .nx (ρ.set i (.val d)) S1 := by
  rw [exT, h]
  simp only [Out.thn_ok, h1, h2, if_true]
theorem ex_ret (h : evE X C e ρ S = .ok (.val d) S1) : exT X C (.ret e) ρ S = .rt (.val d) S1 := by
  rw [exT, h]
  rfl
theorem ex_retO {o : O} (h : evE X C e ρ S = .ok (.own o) S1) : exT X C (.ret e) ρ S = .rt (.own o) S1 := by
  rw [exT, h]
  rfl
theorem ex_setI {k : D} {ob ob' : O} (h : evE X C e ρ S = .ok r S1) (h1 : r.frz = some d) (h2 : evE X C a ρ S1 = .ok (.val (.obj n)) S2) (h3 : evE X C b ρ S2 = .ok (.val k) S3) (h4 : S3[n]? = some ob) (h5 : setO ob k d = some ob') :
    exT X C (.setI a b e) ρ S = .nx ρ (S3.set n ob') := by
  rw [exT, h]
  simp only [Out.thn_ok, h1, h2, h3, h4, h5]
theorem ev_bin {op : Bop} (h1 : evE X C a ρ S = .ok ra S1) (h2 : evE X C b ρ S1 = .ok rb S2) (h3 : ra.view S2 = some x) (h4 : rb.view S2 = some y) (h5 : binop op x y = some r) : evE X C (.bin op a b) ρ S = .ok r S2 := by
  rw [evE, h1]
  simp only [Out.bind_ok, h2, h3, h4, h5]
theorem ev_cmp {op : Cop} {q : Bool} (h1 : evE X C a ρ S = .ok ra S1) (h2 : evE X C b ρ S1 = .ok rb S2) (h3 : ra.view S2 = some x) (h4 : rb.view S2 = some y) (h5 : cmpop op x y = some q) : evE X C (.cmp op a b) ρ S = .ok (.val (.bl q)) S2 := by
  rw [evE, h1]
  simp only [Out.bind_ok, h2, h3, h4, h5]
theorem ev_idx (h1 : evE X C a ρ S = .ok ra S1) (h2 : evE X C b ρ S1 = .ok rb S2) (h3 : ra.view S2 = some x) (h4 : rb.view S2 = some y) (h5 : idxop x y = some d) : evE X C (.idx a b) ρ S = .ok (.val d) S2 := by
  rw [evE, h1]
  simp only [Out.bind_ok, h2, h3, h4, h5]
theorem ev_toInt {z : Int} (h1 : evE X C a ρ S = .ok (.val (.int z)) S1) : evE X C (.toInt a) ρ S = .ok (.val (.int z)) S1 := by
  rw [evE, h1]
  rfl
theorem ev_len {xs : List D} (h1 : evE X C a ρ S = .ok ra S1) (h3 : ra.view S1 = some (.lst xs)) : evE X C (.len a) ρ S = .ok (.val (.int xs.length)) S1 := by
  rw [evE, h1]
  simp only [Out.bind_ok, h3]
/-- a block's end goes on -/
theorem ex_app1 {v : T} (h : exT X C (.seq s t) ρ S = .nx ρ1 S1) (k : ∀ ρ2 S2, exT X C t ρ2 S2 = .nx ρ1 S1 → exT X C u ρ2 S2 = exT X C v ρ1 S1) : exT X C (.seq s u) ρ S = exT X C v ρ1 S1 := by
  rw [exT] at h ⊢
  cases q : exT X C s ρ S with
  | nx ρ2 S2 =>
    rw [q] at h
    exact k ρ2 S2 h
  | bk _ _ => rw [q] at h; cases h
  | rt _ _ => rw [q] at h; cases h
  | exc _ _ _ _ => rw [q] at h; cases h
  | bad => rw [q] at h; cases h
theorem ex_app0 (h : exT X C .skip ρ S = .nx ρ1 S1) : exT X C t ρ S = exT X C t ρ1 S1 := by
  rw [exT] at h
  cases h
  rfl
theorem ev_call {f : Nat} {ds : List D} {o : Out Rv} (h : evL X C es ρ S = .ok ds S1) (h2 : C f ds S1 = o) : evE X C (.call f es) ρ S = o := by
  rw [evE, h]
  exact h2
theorem el_cons {ds : List D} (h : evE X C e ρ S = .ok r S1) (h2 : r.frz = some d) (h3 : evL X C es ρ S1 = .ok ds S2) : evL X C (.cons e es) ρ S = .ok (d :: ds) S2 := by
  rw [evL, h]
  simp only [Out.bind_ok, h2, h3]
theorem el_nil : evL X C .nil ρ S = .ok [] S := by rw [evL]
theorem ev_cst : evE X C (.cst d) ρ S = .ok (.val d) S := by rw [evE]
theorem ex_par {is : List Nat} {ds : List D} (h : evL X C es ρ S = .ok ds S1) (h1 : is.all (free1 ρ) = true) (h2 : ds.length = is.length) : exT X C (.par is es) ρ S = .nx (putAll ρ is ds) S1 := by
  rw [exT, h]
  simp only [Out.thn_ok, h1, h2, beq_self_eq_true, Bool.and_self, if_true]
theorem ex_appO {xs : List D} (h0 : ρ[n]? = some (.own (.lst xs))) (h : evE X C e ρ S = .ok r S1) (h2 : r.frz = some d) (h3 : xs.length < lim) : exT X C (.appO n e) ρ S = .nx (ρ.set n (.own (.lst (xs ++ [d])))) S1 := by
  rw [exT, h0]
  simp only [h, Out.thn_ok, h2, h3, if_true]
theorem comp_none {f : D → Store → Out (Option D)} : ∀ {xs acc : List D} {S : Store}, (∀ x ∈ xs, f x S = .ok none S) → compLoop f xs acc S = .ok acc S
  | [], acc, S, h => rfl
  | x :: xs, acc, S, h => by
    rw [compLoop, h x List.mem_cons_self]
    exact comp_none fun y hy => h y (List.mem_cons_of_mem _ hy)
theorem for_inv {f : D → REnv → Store → OutS} (I : Nat → REnv → Store → Prop) (m : Nat) (h : ∀ k x ρ S, k < m → I k ρ S → ∃ ρ' S', f x ρ S = .nx ρ' S' ∧ I (k + 1) ρ' S') :
    ∀ (xs : List D) (k : Nat) (ρ : REnv) (S : Store), k + xs.length ≤ m → I k ρ S → ∃ ρ' S', forLoop f xs ρ S = .nx ρ' S' ∧ I (k + xs.length) ρ' S'
  | [], k, ρ, S, _, q => ⟨ρ, S, rfl, q⟩
  | x :: xs, k, ρ, S, hk, q => by
    rw [List.length_cons] at hk
    obtain ⟨ρ1, S1, e1, q1⟩ := h k x ρ S (by omega) q
    obtain ⟨ρ2, S2, e2, q2⟩ := for_inv I m h xs (k + 1) ρ1 S1 (by omega) q1
    refine ⟨ρ2, S2, ?_, ?_⟩
    · rw [forLoop, e1]
      exact e2
    · rw [List.length_cons, show k + (xs.length + 1) = k + 1 + xs.length by omega]
      exact q2
theorem at_mem {xs : List D} {i : Int} (h : 0 ≤ i) (h2 : i < xs.length) : ∃ d ∈ xs, idxop (.lst xs) (.int i) = some d := by
  have hl : i.toNat < xs.length := by omega
  refine ⟨xs[i.toNat], List.getElem_mem hl, ?_⟩
  show (L2.ixN xs.length i).bind (fun j => xs[j]?) = some _
  unfold L2.ixN
  rw [if_pos h, if_pos h2]
  exact List.getElem?_eq_getElem hl
theorem eqD_int (i j : Int) : eqD (.int i) (.int j) = some (decide (i = j)) := by
  unfold eqD
  simp only [py]
  rfl
theorem cmp_eqI (i j : Int) : cmpop .eq (.int i) (.int j) = some (decide (i = j)) := eqD_int i j
/-- the law's row of draws -/
def row (ns : List Int) (i a b : Int) (R : Store) : Store := .lst [.lst (ns.map D.int), .int i, .int a, .int b] :: R
theorem at_int {ns : List Int} {i : Int} (h : 0 ≤ i) (h2 : i < ns.length) : ∃ z, idxop (.lst (ns.map D.int)) (.int i) = some (D.int z) := by
  show ∃ z, (L2.ixN (ns.map D.int).length i).bind (fun j => (ns.map D.int)[j]?) = some (D.int z)
  unfold L2.ixN
  rw [List.length_map, if_pos h, if_pos h2]
  show ∃ z, (ns.map D.int)[i.toNat]? = some (D.int z)
  rw [List.getElem?_map, List.getElem?_eq_getElem (by omega)]
  exact ⟨_, rfl⟩
end
def tPick : R.T :=
 (.seq (.ite (.cmp .eq (.idx (.var 0) (.cst (.int 2))) (.cst (.int 0)))
 (.seq (.ite (.cmp .lt (.idx (.var 0) (.cst (.int 1))) (.len (.idx (.var 0) (.cst (.int 0)))))
 (.seq (.asg 3 (.idx (.idx (.var 0) (.cst (.int 0))) (.idx (.var 0) (.cst (.int 1)))))
 (.seq (.setI (.var 0) (.cst (.int 1)) (.bin .add (.idx (.var 0) (.cst (.int 1))) (.cst (.int 1))))
 (.seq (.ite (.cmp .ge (.var 3) (.bin .pow (.cst (.int 10)) (.cst (.int 18))))
 (.seq (.setI (.var 0) (.cst (.int 2)) (.var 3))
 .skip)
 (.seq (.setI (.var 0) (.cst (.int 3)) (.bin .mod (.toInt (.bin .add (.bin .add (.bin .mul (.idx (.var 0) (.cst (.int 3))) (.cst (.int 48271))) (.bin .mul (.var 3) (.cst (.int 69621)))) (.cst (.int 11)))) (.cst (.int 2147483647))))
 .skip))
 .skip)))
 (.seq (.setI (.var 0) (.cst (.int 3)) (.bin .mod (.toInt (.bin .add (.bin .mul (.idx (.var 0) (.cst (.int 3))) (.cst (.int 48271))) (.cst (.int 7)))) (.cst (.int 2147483647))))
 .skip))
 .skip)
 .skip)
 (.seq (.ite (.cmp .gt (.idx (.var 0) (.cst (.int 2))) (.cst (.int 0)))
 (.seq (.asg 2 (.bin .mod (.toInt (.idx (.var 0) (.cst (.int 2)))) (.var 1)))
 (.seq (.setI (.var 0) (.cst (.int 2)) (.bin .fdiv (.idx (.var 0) (.cst (.int 2))) (.var 1)))
 (.seq (.ret (.var 2))
 .skip)))
 .skip)
 (.seq (.ret (.bin .mod (.bin .mod (.toInt (.bin .mul (.idx (.var 0) (.cst (.int 3))) (.cst (.int 16807)))) (.cst (.int 2147483629))) (.var 1)))
 .skip)))
def fPick : Fd := { ctor := none, nslots := 4, nargs := 2, body := tPick }
section
variable {X : Tab} {C : Calls}
theorem mulS {i j : Int} (h : smallI j = true) : binop .mul (.int i) (.int j) = vI (i * j) := by
  show (if (smallI i || smallI j) = true then vI (i * j) else none) = _
  rw [h, Bool.or_true]
  rfl
theorem modS {i j : Int} (h : 0 < j) : binop .mod (.int i) (.int j) = vI (i % j) := by
  show (if 0 < j then vI (i % j) else none) = _
  rw [if_pos h]
theorem var_at {ρ : REnv} {S : Store} {i : Nat} {d : D} (h : ρ[i]? = some (.val d)) : evE X C (.var i) ρ S = .ok (.val d) S := by
  rw [evE, h]
theorem set_row2 {R : Store} {ρ : REnv} {ns : List Int} {i a b z : Int} {e : E} (h : evE X C e ρ (row ns i a b R) = .ok (.val (.int z)) (row ns i a b R)) (hρ : ρ[0]? = some (.val (.obj 0))) :
    exT X C (.setI (.var 0) (.cst (.int 2)) e) ρ (row ns i a b R) = .nx ρ (row ns i z b R) :=
  ex_setI (S1 := row ns i a b R) (S2 := row ns i a b R) (S3 := row ns i a b R) (n := 0) (k := .int 2) (ob := .lst [.lst (ns.map D.int), .int i, .int a, .int b]) (ob' := .lst [.lst (ns.map D.int), .int i, .int z, .int b]) h rfl (var_at hρ) rfl rfl rfl
theorem set_row3 {R : Store} {ρ : REnv} {ns : List Int} {i a b z : Int} {e : E} (h : evE X C e ρ (row ns i a b R) = .ok (.val (.int z)) (row ns i a b R)) (hρ : ρ[0]? = some (.val (.obj 0))) :
    exT X C (.setI (.var 0) (.cst (.int 3)) e) ρ (row ns i a b R) = .nx ρ (row ns i a z R) :=
  ex_setI (S1 := row ns i a b R) (S2 := row ns i a b R) (S3 := row ns i a b R) (n := 0) (k := .int 3) (ob := .lst [.lst (ns.map D.int), .int i, .int a, .int b]) (ob' := .lst [.lst (ns.map D.int), .int i, .int a, .int z]) h rfl (var_at hρ) rfl rfl rfl
/-- the end of a pick -/
theorem pick_end (R : Store) (ns : List Int) (i a b many : Int) (x3 : Sl) (hi : 0 ≤ i) (ha : 0 ≤ a) (hm : 0 < many) (hm2 : many < 10 ^ 21) :
    ∃ i' a' b' r, 0 ≤ i' ∧ 0 ≤ a' ∧ 0 ≤ r ∧ r < many ∧ exT X C (.seq (.ite (.cmp .gt (.idx (.var 0) (.cst (.int 2))) (.cst (.int 0)))
 (.seq (.asg 2 (.bin .mod (.toInt (.idx (.var 0) (.cst (.int 2)))) (.var 1)))
 (.seq (.setI (.var 0) (.cst (.int 2)) (.bin .fdiv (.idx (.var 0) (.cst (.int 2))) (.var 1)))
 (.seq (.ret (.var 2))
 .skip)))
 .skip)
 (.seq (.ret (.bin .mod (.bin .mod (.toInt (.bin .mul (.idx (.var 0) (.cst (.int 3))) (.cst (.int 16807)))) (.cst (.int 2147483629))) (.var 1)))
 .skip)) [.val (.obj 0), .val (.int many), .un, x3] (row ns i a b R) = .rt (.val (.int r)) (row ns i' a' b' R) := by
  have hc : evE X C (.cmp .gt (.idx (.var 0) (.cst (.int 2))) (.cst (.int 0))) [.val (.obj 0), .val (.int many), .un, x3] (row ns i a b R) = .ok (.val (.bl (decide (0 < a)))) (row ns i a b R) := rfl
  by_cases h : 0 < a
  · refine ⟨i, a / many, b, a % many, hi, Int.ediv_nonneg ha (by omega), Int.emod_nonneg _ (by omega), Int.emod_lt_of_pos _ hm, ?_⟩
    rw [decide_eq_true h] at hc
    have e1 : exT X C (.asg 2 (.bin .mod (.toInt (.idx (.var 0) (.cst (.int 2)))) (.var 1))) [.val (.obj 0), .val (.int many), .un, x3] (row ns i a b R) = .nx [.val (.obj 0), .val (.int many), .val (.int (a % many)), x3] (row ns i a b R) :=
      ex_asg (ev_bin (r := .val (.int (a % many))) rfl rfl rfl rfl (modS hm)) rfl rfl
    have hf : binop .fdiv (.int a) (.int many) = vI (a / many) := by
      show (if (decide (0 < many) && decide (many.natAbs < 2 ^ 200)) = true then vI (a / many) else none) = _
      rw [decide_eq_true hm, decide_eq_true (show many.natAbs < 2 ^ 200 from Nat.lt_of_lt_of_le (show many.natAbs < 10 ^ 21 by omega) (by decide))]
      rfl
    have e2 : exT X C (.setI (.var 0) (.cst (.int 2)) (.bin .fdiv (.idx (.var 0) (.cst (.int 2))) (.var 1))) [.val (.obj 0), .val (.int many), .val (.int (a % many)), x3] (row ns i a b R) = .nx [.val (.obj 0), .val (.int many), .val (.int (a % many)), x3] (row ns i (a / many) b R) :=
      set_row2 (ev_bin (r := .val (.int (a / many))) rfl rfl rfl rfl hf) rfl
    refine ex_seqR ?_
    rw [ex_iteT hc, ex_seq e1, ex_seq e2]
    exact ex_seqR (ex_ret rfl)
  · refine ⟨i, a, b, (b * 16807) % 2147483629 % many, hi, ha, Int.emod_nonneg _ (by omega), Int.emod_lt_of_pos _ hm, ?_⟩
    rw [decide_eq_false h] at hc
    have e1 : exT X C (.ite (.cmp .gt (.idx (.var 0) (.cst (.int 2))) (.cst (.int 0)))
 (.seq (.asg 2 (.bin .mod (.toInt (.idx (.var 0) (.cst (.int 2)))) (.var 1)))
 (.seq (.setI (.var 0) (.cst (.int 2)) (.bin .fdiv (.idx (.var 0) (.cst (.int 2))) (.var 1)))
 (.seq (.ret (.var 2))
 .skip)))
 .skip) [.val (.obj 0), .val (.int many), .un, x3] (row ns i a b R) = .nx [.val (.obj 0), .val (.int many), .un, x3] (row ns i a b R) := by
      rw [ex_iteF hc]
      rfl
    rw [ex_seq e1]
    refine ex_seqR (ex_ret ?_)
    refine ev_bin (ev_bin (ev_toInt (ev_bin (r := .val (.int (b * 16807))) rfl rfl rfl rfl (mulS (by decide)))) rfl rfl rfl (modS (by decide))) rfl rfl rfl (modS hm)
abbrev pB : T := (.seq (.ite (.cmp .gt (.idx (.var 0) (.cst (.int 2))) (.cst (.int 0)))
 (.seq (.asg 2 (.bin .mod (.toInt (.idx (.var 0) (.cst (.int 2)))) (.var 1)))
 (.seq (.setI (.var 0) (.cst (.int 2)) (.bin .fdiv (.idx (.var 0) (.cst (.int 2))) (.var 1)))
 (.seq (.ret (.var 2))
 .skip)))
 .skip)
 (.seq (.ret (.bin .mod (.bin .mod (.toInt (.bin .mul (.idx (.var 0) (.cst (.int 3))) (.cst (.int 16807)))) (.cst (.int 2147483629))) (.var 1)))
 .skip))
abbrev pA3 : T := (.ite (.cmp .ge (.var 3) (.bin .pow (.cst (.int 10)) (.cst (.int 18))))
 (.seq (.setI (.var 0) (.cst (.int 2)) (.var 3))
 .skip)
 (.seq (.setI (.var 0) (.cst (.int 3)) (.bin .mod (.toInt (.bin .add (.bin .add (.bin .mul (.idx (.var 0) (.cst (.int 3))) (.cst (.int 48271))) (.bin .mul (.var 3) (.cst (.int 69621)))) (.cst (.int 11)))) (.cst (.int 2147483647))))
 .skip))
abbrev pA1 : T := (.asg 3 (.idx (.idx (.var 0) (.cst (.int 0))) (.idx (.var 0) (.cst (.int 1)))))
abbrev pA2 : T := (.setI (.var 0) (.cst (.int 1)) (.bin .add (.idx (.var 0) (.cst (.int 1))) (.cst (.int 1))))
abbrev pA4 : T := (.setI (.var 0) (.cst (.int 3)) (.bin .mod (.toInt (.bin .add (.bin .mul (.idx (.var 0) (.cst (.int 3))) (.cst (.int 48271))) (.cst (.int 7)))) (.cst (.int 2147483647))))
abbrev pC : E := .cmp .lt (.idx (.var 0) (.cst (.int 1))) (.len (.idx (.var 0) (.cst (.int 0))))
theorem tPick_eq : tPick = .seq (.ite (.cmp .eq (.idx (.var 0) (.cst (.int 2))) (.cst (.int 0))) (.seq (.ite pC (.seq pA1 (.seq pA2 (.seq pA3 .skip))) (.seq pA4 .skip)) .skip) .skip) pB := rfl
/-- a pick: a number below many; the row is a row -/
theorem pick_ok (R : Store) (ns : List Int) (i a b many : Int) (hi : 0 ≤ i) (ha : 0 ≤ a) (hm : 0 < many) (hm2 : many < 10 ^ 21) :
    ∃ i' a' b' r, 0 ≤ i' ∧ 0 ≤ a' ∧ 0 ≤ r ∧ r < many ∧ runFd X C fPick [.obj 0, .int many] (row ns i a b R) = .ok (.val (.int r)) (row ns i' a' b' R) := by
  have fin : ∀ {x3 : Sl} {i' a' b' : Int}, 0 ≤ i' → 0 ≤ a' → exT X C (.ite (.cmp .eq (.idx (.var 0) (.cst (.int 2))) (.cst (.int 0))) (.seq (.ite pC (.seq pA1 (.seq pA2 (.seq pA3 .skip))) (.seq pA4 .skip)) .skip) .skip) [.val (.obj 0), .val (.int many), .un, .un] (row ns i a b R) = .nx [.val (.obj 0), .val (.int many), .un, x3] (row ns i' a' b' R) →
      ∃ i' a' b' r, 0 ≤ i' ∧ 0 ≤ a' ∧ 0 ≤ r ∧ r < many ∧ runFd X C fPick [.obj 0, .int many] (row ns i a b R) = .ok (.val (.int r)) (row ns i' a' b' R) := by
    intro x3 i' a' b' h1 h2 h
    obtain ⟨i2, a2, b2, r, q1, q2, q3, q4, q5⟩ := pick_end (X := X) (C := C) R ns i' a' b' many x3 h1 h2 hm hm2
    refine ⟨i2, a2, b2, r, q1, q2, q3, q4, ?_⟩
    show (match exT X C tPick [.val (.obj 0), .val (.int many), .un, .un] (row ns i a b R) with
      | .nx _ S1 => Out.ok (Rv.val .non) S1
      | .rt r S1 => Out.ok r S1
      | .exc c es _ S1 => Out.exc c es S1
      | _ => Out.bad) = _
    rw [tPick_eq, ex_seq h, q5]
  have hc : evE X C (.cmp .eq (.idx (.var 0) (.cst (.int 2))) (.cst (.int 0))) [.val (.obj 0), .val (.int many), .un, .un] (row ns i a b R) = .ok (.val (.bl (decide (a = 0)))) (row ns i a b R) := ev_cmp rfl rfl rfl rfl (cmp_eqI _ _)
  by_cases h0 : a = 0
  · rw [decide_eq_true h0] at hc
    have hc2 : evE X C pC [.val (.obj 0), .val (.int many), .un, .un] (row ns i a b R) = .ok (.val (.bl (decide (i < ns.length)))) (row ns i a b R) := by
      refine ev_cmp (x := .int i) (y := .int ns.length) rfl (ev_len (xs := ns.map D.int) rfl rfl) rfl ?_ rfl
      rw [List.length_map]
      rfl
    by_cases h1 : i < ns.length
    · rw [decide_eq_true h1] at hc2
      obtain ⟨z, hz⟩ := at_int hi h1
      have e1 : exT X C pA1 [.val (.obj 0), .val (.int many), .un, .un] (row ns i a b R) = .nx [.val (.obj 0), .val (.int many), .un, .val (.int z)] (row ns i a b R) := ex_asg (ev_idx (x := .lst (ns.map D.int)) rfl rfl rfl rfl hz) rfl rfl
      have e2 : exT X C pA2 [.val (.obj 0), .val (.int many), .un, .val (.int z)] (row ns i a b R) = .nx [.val (.obj 0), .val (.int many), .un, .val (.int z)] (row ns (i + 1) a b R) := rfl
      have hc3 : evE X C (.cmp .ge (.var 3) (.bin .pow (.cst (.int 10)) (.cst (.int 18)))) [.val (.obj 0), .val (.int many), .un, .val (.int z)] (row ns (i + 1) a b R) = .ok (.val (.bl (decide (1000000000000000000 ≤ z)))) (row ns (i + 1) a b R) :=
        ev_cmp (y := .int 1000000000000000000) rfl (ev_bin (r := .val (.int 1000000000000000000)) rfl rfl rfl rfl rfl) rfl rfl rfl
      by_cases h2 : 1000000000000000000 ≤ z
      · rw [decide_eq_true h2] at hc3
        have e3 : exT X C pA3 [.val (.obj 0), .val (.int many), .un, .val (.int z)] (row ns (i + 1) a b R) = .nx [.val (.obj 0), .val (.int many), .un, .val (.int z)] (row ns (i + 1) z b R) := by
          rw [ex_iteT hc3]
          rfl
        refine fin (x3 := .val (.int z)) (i' := i + 1) (a' := z) (b' := b) (by omega) (by omega) ?_
        rw [ex_iteT hc, ex_seq (show exT X C (.ite pC (.seq pA1 (.seq pA2 (.seq pA3 .skip))) (.seq pA4 .skip)) _ _ = .nx _ _ from by rw [ex_iteT hc2, ex_seq e1, ex_seq e2, ex_seq e3]; rfl)]
        rfl
      · rw [decide_eq_false h2] at hc3
        have e3 : exT X C pA3 [.val (.obj 0), .val (.int many), .un, .val (.int z)] (row ns (i + 1) a b R) = .nx [.val (.obj 0), .val (.int many), .un, .val (.int z)] (row ns (i + 1) a ((b * 48271 + z * 69621 + 11) % 2147483647) R) := by
          rw [ex_iteF hc3, ex_seq (show exT X C (.setI _ _ _) _ _ = .nx _ _ from set_row3 (z := (b * 48271 + z * 69621 + 11) % 2147483647) (ev_bin (r := .val (.int ((b * 48271 + z * 69621 + 11) % 2147483647))) (ev_toInt (ev_bin (r := .val (.int (b * 48271 + z * 69621 + 11))) (ev_bin (r := .val (.int (b * 48271 + z * 69621))) (ev_bin (r := .val (.int (b * 48271))) rfl rfl rfl rfl (mulS (by decide))) (ev_bin (r := .val (.int (z * 69621))) rfl rfl rfl rfl (mulS (by decide))) rfl rfl rfl) rfl rfl rfl rfl)) rfl rfl rfl (modS (by decide))) rfl)]
          rfl
        refine fin (x3 := .val (.int z)) (i' := i + 1) (a' := a) (b' := (b * 48271 + z * 69621 + 11) % 2147483647) (by omega) ha ?_
        rw [ex_iteT hc, ex_seq (show exT X C (.ite pC (.seq pA1 (.seq pA2 (.seq pA3 .skip))) (.seq pA4 .skip)) _ _ = .nx _ _ from by rw [ex_iteT hc2, ex_seq e1, ex_seq e2, ex_seq e3]; rfl)]
        rfl
    · rw [decide_eq_false h1] at hc2
      have e4 : exT X C pA4 [.val (.obj 0), .val (.int many), .un, .un] (row ns i a b R) = .nx [.val (.obj 0), .val (.int many), .un, .un] (row ns i a ((b * 48271 + 7) % 2147483647) R) :=
        set_row3 (ev_bin (r := .val (.int ((b * 48271 + 7) % 2147483647))) (ev_toInt (ev_bin (r := .val (.int (b * 48271 + 7))) (ev_bin (r := .val (.int (b * 48271))) rfl rfl rfl rfl (mulS (by decide))) rfl rfl rfl rfl)) rfl rfl rfl (modS (by decide))) rfl
      refine fin (x3 := .un) (i' := i) (a' := a) (b' := (b * 48271 + 7) % 2147483647) hi ha ?_
      rw [ex_iteT hc, ex_seq (show exT X C (.ite pC (.seq pA1 (.seq pA2 (.seq pA3 .skip))) (.seq pA4 .skip)) _ _ = .nx _ _ from by rw [ex_iteF hc2, ex_seq e4]; rfl)]
      rfl
  · rw [decide_eq_false h0] at hc
    refine fin hi ha (x3 := .un) (b' := b) ?_
    rw [ex_iteF hc]
    rfl
end
end R
namespace R
open PySem
/-- the store's first object is the law's row of draws -/
def IsRow (S : Store) : Prop := ∃ ns i a b R, S = row ns i a b R ∧ 0 ≤ i ∧ 0 ≤ a
/-- all but the row stays -/
def Same (S S' : Store) : Prop := (∀ k, k ≠ 0 → S'[k]? = S[k]?) ∧ S'.length = S.length
theorem Same.refl (S : Store) : Same S S := ⟨fun _ _ => rfl, rfl⟩
theorem Same.trans {S S' S2 : Store} (h : Same S S') (h2 : Same S' S2) : Same S S2 := ⟨fun k hk => (h2.1 k hk).trans (h.1 k hk), h2.2.trans h.2⟩
theorem same_row {ns ns' : List Int} {i a b i' a' b' : Int} {R : Store} : Same (row ns i a b R) (row ns' i' a' b' R) := ⟨fun k hk => by
  cases k with
  | zero => exact absurd rfl hk
  | succ k => rfl, rfl⟩
theorem IsRow.set {S : Store} (h : IsRow S) {k : Nat} (hk : k ≠ 0) (o : O) : IsRow (S.set k o) := by
  obtain ⟨ns, i, a, b, R, rfl, h1, h2⟩ := h
  cases k with
  | zero => exact absurd rfl hk
  | succ k => exact ⟨ns, i, a, b, R.set k o, rfl, h1, h2⟩
theorem IsRow.app {S : Store} (h : IsRow S) (l : Store) : IsRow (S ++ l) := by
  obtain ⟨ns, i, a, b, R, rfl, h1, h2⟩ := h
  exact ⟨ns, i, a, b, R ++ l, rfl, h1, h2⟩
theorem pick_row {X : Tab} {C : Calls} {S : Store} (h : IsRow S) (many : Int) (hm : 0 < many) (hm2 : many < 10 ^ 21) :
    ∃ S' r, IsRow S' ∧ Same S S' ∧ 0 ≤ r ∧ r < many ∧ runFd X C fPick [.obj 0, .int many] S = .ok (.val (.int r)) S' := by
  obtain ⟨ns, i, a, b, R, rfl, h1, h2⟩ := h
  obtain ⟨i', a', b', r, q1, q2, q3, q4, e⟩ := pick_ok (X := X) (C := C) R ns i a b many h1 h2 hm hm2
  exact ⟨_, r, ⟨ns, i', a', b', R, rfl, q1, q2⟩, same_row, q3, q4, e⟩
theorem set_app {S l : Store} {k : Nat} {o : O} : (S ++ l).set (S.length + k) o = S ++ l.set k o := by
  rw [List.set_append_right _ _ (Nat.le_add_right _ _), Nat.add_sub_cancel_left]
theorem get_app {S l : Store} {k : Nat} : (S ++ l)[S.length + k]? = l[k]? := by
  rw [List.getElem?_append_right (Nat.le_add_right _ _), Nat.add_sub_cancel_left]
theorem get_lo {S l : Store} {k : Nat} {o : O} (h : S[k]? = some o) : (S ++ l)[k]? = some o := by
  rw [List.getElem?_append_left (List.getElem?_eq_some_iff.mp h).1]
  exact h
theorem set_self {S : Store} {k : Nat} {o : O} (h : S[k]? = some o) : S.set k o = S := by
  obtain ⟨hl, rfl⟩ := List.getElem?_eq_some_iff.mp h
  exact List.set_getElem_self hl
theorem get_set {S : Store} {k : Nat} {o o' : O} (h : S[k]? = some o) : (S.set k o')[k]? = some o' := List.getElem?_set_self (List.getElem?_eq_some_iff.mp h).1
theorem get_ne {S : Store} {k l : Nat} {o : O} (h : l ≠ k) : (S.set l o)[k]? = S[k]? := List.getElem?_set_ne h
end R

set_option maxHeartbeats 1000000
/-! The interpreter by simp, head first. -/
namespace R
open PySem
/-- a def's outcome, out of its body's -/
def outF : OutS → Out Rv
  | .nx _ S1 => .ok (.val .non) S1
  | .rt r S1 => .ok r S1
  | .exc c es _ S1 => .exc c es S1
  | _ => .bad
theorem run_def {X : Tab} {C : Calls} {fd : Fd} {ds : List D} {S : Store} (hl : ds.length = fd.nargs) (hc : fd.ctor = none) :
    runFd X C fd ds S = outF (exT X C fd.body (ds.map Sl.val ++ List.replicate (fd.nslots - fd.nargs) .un) S) := by
  obtain ⟨ct, ns, na, b⟩ := fd
  cases hc
  unfold runFd
  rw [if_pos hl]
  rfl
end R
namespace R
open PySem
theorem cmpop_lt (i j : Int) : cmpop .lt (.int i) (.int j) = some (decide (i < j)) := rfl
theorem cmpop_le (i j : Int) : cmpop .le (.int i) (.int j) = some (decide (i ≤ j)) := rfl
theorem cmpop_gt (i j : Int) : cmpop .gt (.int i) (.int j) = some (decide (j < i)) := rfl
theorem cmpop_ge (i j : Int) : cmpop .ge (.int i) (.int j) = some (decide (j ≤ i)) := rfl
theorem cmpop_eq (x y : D) : cmpop .eq x y = eqD x y := rfl
theorem cmpop_ne (x y : D) : cmpop .ne x y = (eqD x y).map (!·) := rfl
theorem callN_succ (X : Tab) (k f : Nat) (ds : List D) (S : Store) : callN X (k + 1) f ds S = (match X.fd f with
    | some fd => runFd X (callN X k) fd ds S
    | none => .bad) := rfl
theorem bne_false2 (b : Bool) : (b != false) = b := by cases b <;> rfl
theorem bne_true2 (b : Bool) : (b != true) = !b := by cases b <;> rfl
/-- a statement of a block, done -/
theorem sq {X : Tab} {C : Calls} {s t : T} {ρ ρ1 : REnv} {S S1 : Store} {o : OutS} (h : exT X C s ρ S = .nx ρ1 S1) (k : exT X C t ρ1 S1 = o) : exT X C (.seq s t) ρ S = o := by
  rw [exT, h]
  exact k
theorem sqR {X : Tab} {C : Calls} {s t : T} {ρ : REnv} {S S1 : Store} {r : Rv} (h : exT X C s ρ S = .rt r S1) : exT X C (.seq s t) ρ S = .rt r S1 := by
  rw [exT, h]
  rfl
theorem sqX {X : Tab} {C : Calls} {s t : T} {ρ ρ1 : REnv} {S S1 : Store} {c : Nat} {ds : List D} (h : exT X C s ρ S = .exc c ds ρ1 S1) : exT X C (.seq s t) ρ S = .exc c ds ρ1 S1 := by
  rw [exT, h]
  rfl
end R
namespace R
open PySem
def plainS : Sl → Bool
  | .own (.ins _ _) => false
  | _ => true
theorem plainS_val (d : D) : plainS (.val d) = true := rfl
theorem plainS_un : plainS .un = true := rfl
theorem plainS_lst (xs : List D) : plainS (.own (.lst xs)) = true := rfl
theorem plainS_dct (xs : List (D × D)) : plainS (.own (.dct xs)) = true := rfl
theorem free1_eq (ρ : REnv) (i : Nat) : free1 ρ i = (ρ[i]?.map plainS).getD false := by
  unfold free1
  cases ρ[i]? with
  | none => rfl
  | some s =>
    cases s with
    | own o => cases o <;> rfl
    | _ => rfl
/-- a walk whose turns are known by their place -/
theorem for_at {f : D → REnv → Store → OutS} (I : Nat → REnv → Store → Prop) : ∀ (xs : List D) (k0 : Nat) {ρ : REnv} {S : Store}, (∀ k x ρ S, xs[k]? = some x → I (k0 + k) ρ S → ∃ ρ' S', f x ρ S = .nx ρ' S' ∧ I (k0 + k + 1) ρ' S') → I k0 ρ S →
    ∃ ρ' S', forLoop f xs ρ S = .nx ρ' S' ∧ I (k0 + xs.length) ρ' S'
  | [], k0, ρ, S, _, h0 => ⟨ρ, S, rfl, h0⟩
  | x :: xs, k0, ρ, S, h, h0 => by
    obtain ⟨ρ1, S1, e1, q1⟩ := h 0 x ρ S rfl h0
    obtain ⟨ρ2, S2, e2, q2⟩ := for_at I xs (k0 + 1) (fun k y ρ S hy hI => by
      obtain ⟨ρ', S', e, q⟩ := h (k + 1) y ρ S hy (by rw [show k0 + (k + 1) = k0 + 1 + k by omega]; exact hI)
      exact ⟨ρ', S', e, by rw [show k0 + 1 + k + 1 = k0 + (k + 1) + 1 by omega]; exact q⟩) q1
    refine ⟨ρ2, S2, ?_, by rw [List.length_cons, show k0 + (xs.length + 1) = k0 + 1 + xs.length by omega]; exact q2⟩
    rw [forLoop, e1]
    exact e2
/-- a walk that ends at the first of a kind -/
theorem for_find {f : D → REnv → Store → OutS} {p : D → Bool} {r : D → Rv} {S : Store} (I : REnv → Prop) : ∀ (xs : List D) {ρ : REnv}, (∀ x ∈ xs, ∀ ρ, I ρ → (p x = true → f x ρ S = .rt (r x) S) ∧ (p x = false → ∃ ρ', f x ρ S = .nx ρ' S ∧ I ρ')) → I ρ →
    match xs.find? p with
    | some x => forLoop f xs ρ S = .rt (r x) S
    | none => ∃ ρ', forLoop f xs ρ S = .nx ρ' S ∧ I ρ'
  | [], ρ, _, h0 => ⟨ρ, rfl, h0⟩
  | x :: xs, ρ, h, h0 => by
    obtain ⟨h1, h2⟩ := h x List.mem_cons_self ρ h0
    rw [List.find?_cons]
    cases q : p x with
    | true =>
      show forLoop f (x :: xs) ρ S = _
      rw [forLoop, h1 q]
    | false =>
      obtain ⟨ρ', e, hI⟩ := h2 q
      have ih := for_find (f := f) (p := p) (r := r) I xs (fun y hy => h y (List.mem_cons_of_mem _ hy)) hI
      have step : forLoop f (x :: xs) ρ S = forLoop f xs ρ' S := by rw [forLoop, e]
      cases q2 : xs.find? p with
      | some y =>
        rw [q2] at ih
        show forLoop f (x :: xs) ρ S = _
        rw [step]
        exact ih
      | none =>
        rw [q2] at ih
        show ∃ ρ'', forLoop f (x :: xs) ρ S = _ ∧ _
        rw [step]
        exact ih
theorem cmp_str2 {x y : Str} {q : Bool} (hx : PyData.strOk x = true) (hy : PyData.strOk y = true) (h : (x == y) = q) : eqD (.str x) (.str y) = some q := by
  unfold eqD py
  have s1 : SeqAt.shaped (.str x) = true := by unfold SeqAt.shaped; rw [show PyData.canLay0 (.str x) = true from hx]; rfl
  have s2 : SeqAt.shaped (.str y) = true := by unfold SeqAt.shaped; rw [show PyData.canLay0 (.str y) = true from hy]; rfl
  simp only [s1, s2, Bool.and_self, if_true]
  rw [← h]
  rfl
theorem len_map_int (ns : List Int) : (ns.map D.int).length = ns.length := List.length_map ..
end R
namespace R
open PySem
section
variable {X : Tab} {C : Calls} {ρ ρ1 : REnv} {S S1 S2 : Store} {a b e : E} {t : T} {it : I} {o : OutS} {r : Rv} {d : D} {xs : List D} {tg : List Nat}
abbrev stepF (X : Tab) (C : Calls) (tg : List Nat) (t : T) : D → REnv → Store → OutS := fun x ρ S => match put ρ tg x with
      | some ρ1 => exT X C t ρ1 S
      | none => .bad
theorem ex_for (h : evI X C it ρ S = .ok xs S1) (hst : it.stays = true) (hf : tg.all (free1 ρ) = true) (h2 : forLoop (stepF X C tg t) xs ρ S1 = o) : exT X C (.for_ tg it t) ρ S = o := by
  rw [exT, h, Out.thn_ok, if_pos (by rw [hst, hf]; rfl)]
  exact h2
theorem ev_rng1 {z : Int} (h : evE X C a ρ S = .ok (.val (.int z)) S1) (h1 : -100000 ≤ z) (h2 : z ≤ 100000) : evI X C (.rng1 a) ρ S = .ok ((List.range z.toNat).map fun (i : Nat) => D.int (0 + i)) S1 := by
  rw [evI, h, Out.bind_ok]
  simp only [decide_eq_true h1, decide_eq_true h2, Bool.and_self, if_true]
theorem ev_seqF (h : evE X C e ρ S = .ok r S1) (hf : r.frz = some d) (hs : D.seq d = some xs) : evI X C (.seqF e) ρ S = .ok xs S1 := by
  rw [evI, h, Out.bind_ok, hf]
  simp only [Option.bind_some, hs]
theorem at_range {n : Nat} {k : Nat} {x : D} (h : ((List.range n).map fun (i : Nat) => D.int (0 + i))[k]? = some x) : k < n ∧ x = .int k := by
  rw [List.getElem?_map] at h
  by_cases hk : k < n
  · rw [List.getElem?_range hk] at h
    cases h
    exact ⟨hk, by show D.int (0 + (k : Int)) = _; rw [Int.zero_add]⟩
  · rw [List.getElem?_eq_none (by simpa using hk)] at h
    cases h
theorem at_map {α : Type} {f : α → D} {l : List α} {k : Nat} {x : D} (h : (l.map f)[k]? = some x) : ∃ m, l[k]? = some m ∧ x = f m := by
  rw [List.getElem?_map] at h
  cases q : l[k]? with
  | none => rw [q] at h; cases h
  | some m => rw [q] at h; cases h; exact ⟨m, rfl, rfl⟩
theorem take_at {α : Type} {l : List α} {k : Nat} {m : α} (h : l[k]? = some m) : l.take (k + 1) = l.take k ++ [m] := by
  rw [List.take_succ, h]
  rfl
end
end R
namespace R
open PySem
section
variable (S : Store) (i j : Int) (b : Bool) (x y : Str) (xs ys : List D) (kvs : List (D × D)) (c n : Nat) (o : O) (d : D)
theorem vw_int : (Rv.val (.int i)).view S = some (.int i) := rfl
theorem vw_bl : (Rv.val (.bl b)).view S = some (.bl b) := rfl
theorem vw_non : (Rv.val .non).view S = some .non := rfl
theorem vw_str : (Rv.val (.str x)).view S = some (.str x) := rfl
theorem vw_tup : (Rv.val (.tup xs)).view S = some (.tup xs) := rfl
theorem vw_lst : (Rv.val (.lst xs)).view S = some (.lst xs) := rfl
theorem vw_dct : (Rv.val (.dct kvs)).view S = some (.dct kvs) := rfl
theorem vw_ins : (Rv.val (.ins c xs)).view S = some (.ins c xs) := rfl
theorem vw_scr : (Rv.val (.scr xs)).view S = some (.scr xs) := rfl
theorem vw_obj : (Rv.val (.obj n)).view S = (S[n]?).map O.d := rfl
theorem vw_own : (Rv.own o).view S = some o.d := rfl
theorem vw_tmp : (Rv.tmp o).view S = some o.d := rfl
theorem d_lst : (O.lst xs).d = .lst xs := rfl
theorem d_dct : (O.dct kvs).d = .dct kvs := rfl
theorem d_ins : (O.ins c xs).d = .ins c xs := rfl
theorem fz_val : (Rv.val d).frz = some d := rfl
theorem fz_own : (Rv.own o).frz = some o.d := rfl
theorem lk_val : (Rv.val d).look = some d := rfl
theorem lk_own : (Rv.own o).look = some o.d := rfl
theorem lk_tmp : (Rv.tmp o).look = some o.d := rfl
theorem b_addI : binop .add (.int i) (.int j) = some (.val (.int (i + j))) := rfl
theorem b_subI : binop .sub (.int i) (.int j) = some (.val (.int (i - j))) := rfl
theorem b_addL (h : xs.length + ys.length ≤ lim) : binop .add (.lst xs) (.lst ys) = some (.own (.lst (xs ++ ys))) := if_pos h
theorem b_addT (h : xs.length + ys.length ≤ lim) : binop .add (.tup xs) (.tup ys) = some (.val (.tup (xs ++ ys))) := if_pos h
theorem sq_tup : D.seq (.tup xs) = some xs := rfl
theorem sq_lst : D.seq (.lst xs) = some xs := rfl
end
end R
namespace R
open PySem
section
variable {X : Tab} {C : Calls}
/-- a turn of a comprehension -/
abbrev compF (X : Tab) (C : Calls) (own tg : List Nat) (c : E) (cs : Cs) (elt : E) (ρ : REnv) : D → Store → O → Out O := fun x S acc => match put (wipeE ρ own) tg x with
        | some ρ1 => (evE X C c ρ1 S).bind fun rc S1 => (match rc with
          | .val (.bl true) => evC X C cs (fun ρ2 S2 acc => (evE X C elt ρ2 S2).bind fun r S3 => match r.frz, acc with
            | some d, .lst ys => if ys.length < lim then .ok (.lst (ys ++ [d])) S3 else .bad
            | _, _ => .bad) ρ1 S1 acc
          | .val (.bl false) => .ok acc S1
          | _ => .bad)
        | none => .bad
theorem ev_compN {own tg : List Nat} {it : I} {c : E} {cs : Cs} {elt : E} {ρ : REnv} {S S1 S2 : Store} {xs : List D} {acc : O} (h : evI X C it ρ S = .ok xs S1) (hl : xs.length ≤ 100000) (h2 : itLoop (compF X C own tg c cs elt ρ) xs S1 (.lst []) = .ok acc S2) :
    evE X C (.compN own tg it c cs elt) ρ S = .ok (.own acc) S2 := by
  rw [evE, h]
  simp only [Out.bind_ok]
  rw [if_pos hl]
  show ((itLoop (compF X C own tg c cs elt ρ) xs S1 (.lst [])).nox.bind _) = _
  rw [h2]
  rfl
/-- one name, no condition -/
theorem comp_turn {own : List Nat} {i : Nat} {elt : E} {ρ : REnv} {S S2 : Store} {x d : D} {ys : List D} {r : Rv} (h : evE X C elt ((wipeE ρ own).set i (.val x)) S = .ok r S2) (hr : r.frz = some d) (hl : ys.length < lim) :
    compF X C own [i] (.cst (.bl true)) .nil elt ρ x S (.lst ys) = .ok (.lst (ys ++ [d])) S2 := by
  show (evE X C (.cst (.bl true)) ((wipeE ρ own).set i (.val x)) S).bind _ = _
  rw [evE, Out.bind_ok]
  show evC X C .nil _ ((wipeE ρ own).set i (.val x)) S (.lst ys) = _
  rw [evC, h, Out.bind_ok, hr]
  exact if_pos hl
theorem it_map {f : D → Store → O → Out O} {g : D → D} {S : Store} : ∀ (xs ys : List D), ys.length + xs.length < lim → (∀ x ∈ xs, ∀ ys, ys.length < lim → f x S (.lst ys) = .ok (.lst (ys ++ [g x])) S) → itLoop f xs S (.lst ys) = .ok (.lst (ys ++ xs.map g)) S
  | [], ys, _, _ => by
    rw [List.map_nil, List.append_nil]
    rfl
  | x :: xs, ys, hl, h => by
    rw [List.length_cons] at hl
    rw [itLoop, h x List.mem_cons_self ys (by omega), Out.bind_ok, it_map xs (ys ++ [g x]) (by simp; omega) fun y hy => h y (List.mem_cons_of_mem _ hy), List.map_cons, List.append_assoc]
    rfl
theorem bls_map : ∀ bs : List Bool, blsOf (bs.map D.bl) = some bs
  | [] => rfl
  | b :: bs => by
    show (blsOf (bs.map D.bl)).map (b :: ·) = _
    rw [bls_map bs]
    rfl
theorem at_last (xs : List D) (x : D) : idxop (.lst (xs ++ [x])) (.int (-1)) = some x := by
  show (L2.ixN (xs ++ [x]).length (-1)).bind (fun j => (xs ++ [x])[j]?) = some x
  have : L2.ixN (xs ++ [x]).length (-1) = some xs.length := by
    unfold L2.ixN
    simp only [List.length_append, List.length_cons, List.length_nil]
    rw [if_neg (by omega), if_pos (by omega)]
    congr 1
    omega
  rw [this]
  simp
end
end R
namespace R
open PySem
/-- an __init__'s outcome -/
def outK : OutS → Out Rv
  | .nx (.own (.ins c' fs) :: _) S1 => .ok (.own (.ins c' fs)) S1
  | .exc c es _ S1 => .exc c es S1
  | _ => .bad
theorem run_ctor {X : Tab} {C : Calls} {fd : Fd} {ds : List D} {S : Store} {c : Nat} (hl : ds.length = fd.nargs) (hc : fd.ctor = some c) :
    runFd X C fd ds S = outK (exT X C fd.body (.own (.ins c []) :: ds.map Sl.val ++ List.replicate (fd.nslots - fd.nargs - 1) .un) S) := by
  obtain ⟨ct, ns, na, b⟩ := fd
  cases hc
  unfold runFd
  rw [if_pos hl]
  simp only
  unfold outK
  split <;> rename_i h <;> simp only [h]
section
variable {X : Tab} {C : Calls} {ρ : REnv} {S S1 S2 S3 : Store} {a b e o : E} {r : Rv} {d : D} {c k n : Nat} {ds xs : List D}
theorem ex_setFO (h : evE X C e ρ S = .ok r S1) (hf : r.frz = some d) (h0 : ρ[0]? = some (.own (.ins c ds))) (hl : ds.length = k) (hc : X.cls c = true) : exT X C (.setFO c k e) ρ S = .nx (ρ.set 0 (.own (.ins c (ds ++ [d])))) S1 := by
  rw [exT, h]
  simp only [Out.thn_ok, hf, h0]
  rw [if_pos ⟨hl, hc, trivial⟩]
theorem ex_setF (h : evE X C e ρ S = .ok r S1) (hf : r.frz = some d) (ho : evE X C o ρ S1 = .ok (.val (.obj n)) S2) (hn : S2[n]? = some (.ins c ds)) (hk : k < ds.length) : exT X C (.setF c k o e) ρ S = .nx ρ (S2.set n (.ins c (ds.set k d))) := by
  rw [exT, h]
  simp only [Out.thn_ok, hf, ho, hn]
  rw [if_pos ⟨trivial, hk⟩]
theorem ex_app {ys : List D} (ho : evE X C o ρ S = .ok (.val (.obj n)) S1) (hn : S1[n]? = some (.lst ys)) (h : evE X C e ρ S1 = .ok r S2) (hf : r.frz = some d) (hn2 : S2[n]? = some (.lst xs)) (hl : xs.length < lim) : exT X C (.app o e) ρ S = .nx ρ (S2.set n (.lst (xs ++ [d]))) := by
  rw [exT, ho]
  simp only [Out.thn_ok, hn, h, hf, hn2, hl, if_true]
theorem ex_popT (ho : evE X C o ρ S = .ok (.val (.obj n)) S1) (hn : S1[n]? = some (.lst xs)) (hl : xs.length ≠ 0) : exT X C (.popT o) ρ S = .nx ρ (S1.set n (.lst xs.dropLast)) := by
  rw [exT, ho]
  simp only [Out.thn_ok, hn]
  rw [if_pos hl]
theorem ex_tupl2 {i j : Nat} {x y : D} (h : evE X C e ρ S = .ok (.val (.tup [x, y])) S1) (h2 : [i, j].all (free1 ρ) = true) : exT X C (.tupl [i, j] e) ρ S = .nx ((ρ.set i (.val x)).set j (.val y)) S1 := by
  rw [exT, h]
  simp only [Out.thn_ok, Rv.frz, h2]
  rfl
theorem ex_tuplL {i j : Nat} {x y : D} (h : evE X C e ρ S = .ok (.own (.lst [x, y])) S1) (h2 : [i, j].all (free1 ρ) = true) : exT X C (.tupl [i, j] e) ρ S = .nx ((ρ.set i (.val x)).set j (.val y)) S1 := by
  rw [exT, h]
  simp only [Out.thn_ok, Rv.frz, O.d, h2]
  rfl
theorem ev_meth {f : Nat} {es : Es} {ds fs : List D} {out : Out Rv} (h : evE X C o ρ S = .ok (.val d) S1) (hv : (Rv.val d).view S1 = some (.ins c fs)) (he : evL X C es ρ S1 = .ok ds S2) (h2 : C f (d :: ds) S2 = out) (hst : es.starry = false := by rfl) : evE X C (.meth c f o es) ρ S = out := by
  rw [evE, h]
  simp only [Out.bind_ok, hv, if_true, he, hst, Bool.false_eq_true, if_false]
  exact h2
theorem ev_methS {f : Nat} {es : Es} {ds fs : List D} {r : Rv} (h : evE X C o ρ S = .ok (.val d) S1) (hv : (Rv.val d).view S1 = some (.ins c fs)) (he : evL X C es ρ S1 = .ok ds S2) (h2 : C f (d :: ds) S2 = .ok r S3) (hst : es.starry = true := by rfl) : evE X C (.meth c f o es) ρ S = .ok r S3 := by
  rw [evE, h]
  simp only [Out.bind_ok, hv, if_true, he, hst, h2]
  rfl
theorem el_star {es : Es} {ds : List D} (h : evE X C e ρ S = .ok r S1) (h2 : r.frz.bind D.seq = some xs) (h3 : evL X C es ρ S1 = .ok ds S2) : evL X C (.star e es) ρ S = .ok (xs ++ ds) S2 := by
  rw [evL, h]
  simp only [Out.bind_ok, h2, h3]
theorem ev_prop {f : Nat} {fs : List D} (h : evE X C o ρ S = .ok (.val d) S1) (hv : (Rv.val d).view S1 = some (.ins c fs)) (h2 : C f [d] S1 = .ok r S2) : evE X C (.prop c f o) ρ S = .ok r S2 := by
  rw [evE, h]
  simp only [Out.bind_ok, hv, if_true, h2]
  rfl
theorem ev_mk {ob : O} (h : evE X C e ρ S = .ok (.own ob) S1) : evE X C (.mk e) ρ S = .ok (.val (.obj S1.length)) (S1 ++ [ob]) := by
  rw [evE, h]
  rfl
theorem ex_expr (h : evE X C e ρ S = .ok r S1) : exT X C (.expr e) ρ S = .nx ρ S1 := by
  rw [exT, h]
  rfl
theorem ex_aug {i : Nat} {x y : Int} (h0 : ρ[i]? = some (.val (.int x))) (h : evE X C e ρ S = .ok (.val (.int y)) S1) : exT X C (.aug i .add e) ρ S = .nx (ρ.set i (.val (.int (x + y)))) S1 := by
  rw [exT, h0]
  simp only [h, Out.thn_ok]
theorem ex_setIO {s : Nat} {ob ob' : O} {kd : D} (h : evE X C e ρ S = .ok r S1) (hf : r.frz = some d) (h0 : ρ[s]? = some (.own ob)) (hk : evE X C a ρ S1 = .ok (.val kd) S2) (hs : setO ob kd d = some ob') : exT X C (.setIO s a e) ρ S = .nx (ρ.set s (.own ob')) S2 := by
  rw [exT, h]
  simp only [Out.thn_ok, hf, h0, hk, hs]
theorem at_nat {xs : List D} {k : Nat} {d : D} (h : xs[k]? = some d) : idxop (.lst xs) (.int (k : Int)) = some d := by
  have hl := (List.getElem?_eq_some_iff.mp h).1
  show (L2.ixN xs.length (k : Int)).bind (fun j => xs[j]?) = some d
  unfold L2.ixN
  rw [if_pos (by omega), if_pos (by omega), Int.toNat_natCast]
  exact h
theorem ev_and {q : Bool} (h1 : evE X C a ρ S = .ok (.val (.bl true)) S1) (h2 : evE X C b ρ S1 = .ok (.val (.bl q)) S2) : evE X C (.and a b) ρ S = .ok (.val (.bl q)) S2 := by
  rw [evE, h1]
  exact h2
theorem ev_orF {q : Bool} (h1 : evE X C a ρ S = .ok (.val (.bl false)) S1) (h2 : evE X C b ρ S1 = .ok (.val (.bl q)) S2) : evE X C (.or a b) ρ S = .ok (.val (.bl q)) S2 := by
  rw [evE, h1]
  exact h2
theorem ev_not {q : Bool} (h1 : evE X C a ρ S = .ok (.val (.bl q)) S1) : evE X C (.not a) ρ S = .ok (.val (.bl (!q))) S1 := by
  rw [evE, h1]
  rfl
theorem ev_iteT {x : Out Rv} (h1 : evE X C e ρ S = .ok (.val (.bl true)) S1) (h2 : evE X C a ρ S1 = x) : evE X C (.ite e a b) ρ S = x := by
  rw [evE, h1]
  exact h2
theorem ev_iteF {x : Out Rv} (h1 : evE X C e ρ S = .ok (.val (.bl false)) S1) (h2 : evE X C b ρ S1 = x) : evE X C (.ite e a b) ρ S = x := by
  rw [evE, h1]
  exact h2
theorem ev_lst {es : Es} (h : evL X C es ρ S = .ok xs S1) (hl : xs.length ≤ lim) : evE X C (.lst es) ρ S = .ok (.own (.lst xs)) S1 := by
  rw [evE, h]
  exact if_pos hl
theorem ev_tup {es : Es} (h : evL X C es ρ S = .ok xs S1) (hl : xs.length ≤ lim) : evE X C (.tup es) ρ S = .ok (.val (.tup xs)) S1 := by
  rw [evE, h]
  exact if_pos hl
theorem ev_blt {bi : Nat} {x : D} (h : evE X C a ρ S = .ok r S1) (hv : r.view S1 = some x) (hb : bltop bi x = some (.val d)) : evE X C (.blt bi a) ρ S = .ok (.val d) S1 := by
  rw [evE, h]
  simp only [Out.bind_ok, hv, hb]
theorem ev_isin {x y : D} {q : Bool} (h1 : evE X C a ρ S = .ok r S1) {rb : Rv} (h2 : evE X C b ρ S1 = .ok rb S2) (h3 : r.view S2 = some x) (h4 : rb.view S2 = some y) (h5 : isinop x y = some q) : evE X C (.isin false a b) ρ S = .ok (.val (.bl q)) S2 := by
  rw [evE, h1]
  simp only [Out.bind_ok, h2, h3, h4, h5, bne_false2]
end
end R
namespace R
open PySem
section
variable {X : Tab} {C : Calls} {ρ : REnv} {S S1 S2 : Store} {a b e : E} {d : D} {c : Nat}
theorem ev_lenO {f : Nat} {fs : List D} {n : Nat} (h : evE X C a ρ S = .ok (.val d) S1) (hv : (Rv.val d).view S1 = some (.ins c fs)) (h2 : C f [d] S1 = .ok (.val (.int n)) S2) (hn : n ≤ 1000000) : evE X C (.lenO c f a) ρ S = .ok (.val (.int n)) S2 := by
  rw [evE, h]
  simp only [Out.bind_ok, hv, if_true, h2, Out.nox]
  rw [if_pos (by rw [decide_eq_true (show (0 : Int) ≤ n by omega), decide_eq_true (show (n : Int) ≤ 1000000 by omega)]; rfl)]
theorem ev_slc {ra r : Rv} {i j : Int} {x : D} (h : evE X C a ρ S = .ok ra S) (hb : evE X C b ρ S = .ok (.val (.int i)) S) (hc : evE X C e ρ S = .ok (.val (.int j)) S) (hv : ra.view S = some x) (hs : sliceD x (some i) (some j) = some r) : evE X C (.slc a b e) ρ S = .ok r S := by
  rw [evE, h]
  simp only [Out.bind_ok, hb, hc, hv, hs]
theorem ev_slcL {ra r : Rv} {j : Int} {x : D} (h : evE X C a ρ S = .ok ra S) (hc : evE X C e ρ S = .ok (.val (.int j)) S) (hv : ra.view S = some x) (hs : sliceD x none (some j) = some r) : evE X C (.slcL a e) ρ S = .ok r S := by
  rw [evE, h]
  simp only [Out.bind_ok, hc, hv, hs]
theorem ex_parM2 {i j : Nat} {bi bj : Bool} {es : Es} {s1 s2 : Sl} (h : evM X C es [bi, bj] ρ S = .ok [s1, s2] S1) (hf : ([i, j].all fun i => free1 ρ i && decide (i < ρ.length)) = true) (hn : i ≠ j) : exT X C (.parM [(i, bi), (j, bj)] es) ρ S = .nx ((ρ.set i s1).set j s2) S1 := by
  rw [exT]
  simp only [List.map_cons, List.map_nil]
  rw [h, Out.thn_ok, if_pos]
  · rfl
  · rw [hf, decide_eq_true (show [i, j].Nodup by simpa using hn)]
    rfl
theorem em_val {es : Es} {bs : List Bool} {ss : List Sl} {r : Rv} (h : evE X C e ρ S = .ok r S1) (hf : r.frz = some d) (h2 : evM X C es bs ρ S1 = .ok ss S2) : evM X C (.cons e es) (false :: bs) ρ S = .ok (.val d :: ss) S2 := by
  rw [evM, h]
  simp only [Out.bind_ok, hf, h2]
theorem em_own {es : Es} {bs : List Bool} {ss : List Sl} {o : O} (h : evE X C e ρ S = .ok (.own o) S1) (hf : notIns o = true) (h2 : evM X C es bs ρ S1 = .ok ss S2) : evM X C (.cons e es) (true :: bs) ρ S = .ok (.own o :: ss) S2 := by
  rw [evM, h]
  simp only [Out.bind_ok, hf, h2, if_true]
theorem em_nil : evM X C .nil [] ρ S = .ok [] S := by rw [evM]
end
end R

set_option maxHeartbeats 1000000
/-! Plain mathematics: data, dicts, moves, leads. -/
namespace R
open PySem
/-! ### data -/
/-- data, of a depth -/
def Fl (k : Nat) (x : D) : Prop := ∃ a, py x = some a ∧ a.canLay0 = true ∧ a.depth ≤ k
theorem Fl.int (k : Nat) (i : Int) : Fl k (.int i) := ⟨.int i, rfl, rfl, Nat.zero_le _⟩
theorem Fl.bl (k : Nat) (b : Bool) : Fl k (.bl b) := ⟨.bool b, rfl, rfl, Nat.zero_le _⟩
theorem Fl.non (k : Nat) : Fl k .non := ⟨.none, rfl, rfl, Nat.zero_le _⟩
theorem Fl.str (k : Nat) {x : Str} (h : PyData.strOk x = true) : Fl k (.str x) := ⟨.str x, rfl, h, Nat.zero_le _⟩
theorem Fl.all {k : Nat} : ∀ {xs : List D}, (∀ x ∈ xs, Fl k x) → ∃ as, pyAll xs = some as ∧ PyData.canLayAll0 as = true ∧ PyData.depthAll as ≤ k
  | [], _ => ⟨[], rfl, rfl, Nat.zero_le _⟩
  | x :: xs, h => by
    obtain ⟨a, h1, h2, h3⟩ := h x List.mem_cons_self
    obtain ⟨as, g1, g2, g3⟩ := Fl.all (xs := xs) fun y hy => h y (List.mem_cons_of_mem _ hy)
    refine ⟨a :: as, ?_, ?_, ?_⟩
    · unfold pyAll; rw [h1, g1]
    · unfold PyData.canLayAll0; rw [h2, g2]; rfl
    · unfold PyData.depthAll; omega
theorem Fl.tup {k : Nat} {xs : List D} (h : ∀ x ∈ xs, Fl k x) : Fl (k + 1) (.tup xs) := by
  obtain ⟨as, h1, h2, h3⟩ := Fl.all h
  exact ⟨.tuple as, by show (pyAll xs).map _ = _; rw [h1]; rfl, by unfold PyData.canLay0; exact h2, by unfold PyData.depth; omega⟩
theorem Fl.lst {k : Nat} {xs : List D} (h : ∀ x ∈ xs, Fl k x) : Fl (k + 1) (.lst xs) := by
  obtain ⟨as, h1, h2, h3⟩ := Fl.all h
  exact ⟨.list as, by show (pyAll xs).map _ = _; rw [h1]; rfl, by unfold PyData.canLay0; exact h2, by unfold PyData.depth; omega⟩
theorem Fl.mono {k l : Nat} {x : D} (h : Fl k x) (hl : k ≤ l) : Fl l x := let ⟨a, h1, h2, h3⟩ := h; ⟨a, h1, h2, Nat.le_trans h3 hl⟩
theorem shaped_of {k : Nat} {a : PyData} (h1 : a.canLay0 = true) (h2 : a.depth ≤ k) (hk : k ≤ 64) : SeqAt.shaped a = true := by
  unfold SeqAt.shaped
  rw [h1, decide_eq_true (Nat.le_trans h2 hk)]
  rfl
theorem eq_any {k l : Nat} {x y : D} {a b : PyData} (hx : py x = some a) (hy : py y = some b) (h1 : a.canLay0 = true) (h2 : a.depth ≤ k) (h3 : b.canLay0 = true) (h4 : b.depth ≤ l) (hk : k ≤ 64) (hl : l ≤ 64) : eqD x y = some (PyData.eqv a b) := by
  unfold eqD
  rw [hx, hy]
  simp only [shaped_of h1 h2 hk, shaped_of h3 h4 hl, Bool.and_self, if_true]
theorem eq_self {k : Nat} {x : D} (h : Fl k x) (hk : k ≤ 64) : eqD x x = some true := by
  obtain ⟨a, h1, h2, h3⟩ := h
  rw [eq_any h1 h1 h2 h3 h2 h3 hk hk, PySem.SeqAt.eqv_refl a h2]
theorem eq_str {x y : Str} (hx : PyData.strOk x = true) (hy : PyData.strOk y = true) : eqD (.str x) (.str y) = some (x == y) := by
  rw [eq_any (a := .str x) (b := .str y) (k := 0) (l := 0) rfl rfl hx (Nat.zero_le _) hy (Nat.zero_le _) (by decide) (by decide)]
  rfl
theorem eq_nil {k : Nat} {xs : List D} (h : ∀ x ∈ xs, Fl k x) (hk : k < 64) : eqD (.lst xs) (.lst []) = some xs.isEmpty := by
  obtain ⟨as, h1, h2, h3⟩ := Fl.all h
  rw [eq_any (x := .lst xs) (a := .list as) (k := k + 1) (y := .lst []) (b := .list []) (l := 1) (by show (pyAll xs).map _ = _; rw [h1]; rfl) rfl (by unfold PyData.canLay0; exact h2) (by unfold PyData.depth; omega) rfl (by decide) (by omega) (by decide)]
  cases xs with
  | nil => cases h1; rfl
  | cons x xs =>
    unfold pyAll at h1
    split at h1
    · cases h1; rfl
    · cases h1
/-! ### dicts -/
theorem getD_same {kvs : List (D × D)} {k : NestedKey} {kd v : D} (hk : nk kd = some k) : getD (putD kvs k kd v) k = some v := by
  unfold putD
  by_cases h : (getD kvs k).isSome = true
  · rw [if_pos h]
    unfold getD at h ⊢
    induction kvs with
    | nil => simp at h
    | cons e r ih =>
      rw [List.map_cons, List.find?_cons]
      rw [List.find?_cons] at h
      by_cases q : nk e.1 = some k
      · simp [q]
      · simp only [q, decide_false, if_false] at h ⊢
        exact ih h
  · rw [if_neg h]
    have h : getD kvs k = none := by simpa using h
    unfold getD at h ⊢
    rw [List.find?_append, Option.map_eq_none_iff.mp h]
    simp [hk]
theorem getD_ne {kvs : List (D × D)} {k k' : NestedKey} {kd v : D} (hk : nk kd = some k) (hn : k ≠ k') : getD (putD kvs k kd v) k' = getD kvs k' := by
  unfold putD
  split
  · rename_i hh
    clear hh
    unfold getD
    induction kvs with
    | nil => rfl
    | cons e r ih =>
      rw [List.map_cons, List.find?_cons, List.find?_cons]
      by_cases q : nk e.1 = some k
      · have q' : ¬ nk e.1 = some k' := fun z => hn (Option.some.inj (q.symm.trans z))
        simp only [q, if_true, Option.some.injEq, hn, decide_false]
        exact ih
      · simp only [q, if_false]
        by_cases q' : nk e.1 = some k'
        · simp [q']
        · simp only [q', decide_false]
          exact ih
  · unfold getD
    rw [List.find?_append]
    cases List.find? (fun e => decide (nk e.1 = some k')) kvs with
    | some e => rfl
    | none => simp [hk, hn]
theorem putD_length {kvs : List (D × D)} {k : NestedKey} {kd v : D} : (putD kvs k kd v).length ≤ kvs.length + 1 := by
  unfold putD
  split
  · rw [List.length_map]; omega
  · simp
/-- the keys -/
def keysN (kvs : List (D × D)) : List (Option NestedKey) := kvs.map fun e => nk e.1
theorem getD_mem {kvs : List (D × D)} {k : NestedKey} : (getD kvs k).isSome = true ↔ some k ∈ keysN kvs := by
  unfold getD keysN
  rw [Option.isSome_map, List.find?_isSome]
  constructor
  · rintro ⟨e, he, h⟩
    exact List.mem_map.mpr ⟨e, he, of_decide_eq_true h⟩
  · intro h
    obtain ⟨e, he, h⟩ := List.mem_map.mp h
    exact ⟨e, he, decide_eq_true h⟩
theorem keys_putD {kvs : List (D × D)} {k : NestedKey} {kd v : D} (hk : nk kd = some k) : keysN (putD kvs k kd v) = if (getD kvs k).isSome then keysN kvs else keysN kvs ++ [some k] := by
  unfold putD
  split
  · unfold keysN
    rw [List.map_map]
    refine List.map_congr_left fun e _ => ?_
    show nk (if nk e.1 = some k then (e.1, v) else e).1 = nk e.1
    split <;> rfl
  · unfold keysN
    rw [List.map_append, List.map_cons, List.map_nil, hk]
theorem nodup_sub {α : Type} [BEq α] [LawfulBEq α] : ∀ {l m : List α}, l.Nodup → (∀ x ∈ l, x ∈ m) → l.length ≤ m.length
  | [], _, _, _ => Nat.zero_le _
  | x :: l, m, h, hs => by
    rw [List.nodup_cons] at h
    have hx := hs x List.mem_cons_self
    have := nodup_sub (l := l) (m := m.erase x) h.2 fun y hy => (List.mem_erase_of_ne (fun e : y = x => h.1 (by rw [← e]; exact hy))).mpr (hs y (List.mem_cons_of_mem _ hy))
    rw [List.length_erase_of_mem hx] at this
    have hp : 0 < m.length := List.length_pos_of_mem hx
    rw [List.length_cons]
    omega
/-! ### moves, leads -/
abbrev Mv := Str × Int
abbrev Sp := Int × Int
def mvs (two : Bool) (r : Int) : List Mv := if 0 < r then (if two && decide (1 < r) then [("left", 1), ("left", 2), ("right", 1), ("right", 2)] else [("left", 1), ("right", 1)]) else []
def aft (s : Sp) (m : Mv) : Sp := if m.1 = ("left" : Str) then (s.1 + m.2, s.2) else (s.1, s.2 - m.2)
def tkn (s : Sp) (m : Mv) : Sp := if m.1 = ("left" : Str) then (s.1, s.1 + m.2) else (s.2 - m.2, s.2)
def gn (ws : List Int) (s : Sp) : Int := ((ws.drop s.1.toNat).take (s.2.toNat - s.1.toNat)).sum
def maxO : List Int → Int
  | [] => 0
  | x :: xs => xs.foldl max x
def leadF (ws : List Int) (two : Bool) : Nat → Sp → Int
  | 0, _ => 0
  | k + 1, s => maxO ((mvs two (s.2 - s.1)).map fun m => gn ws (tkn s m) - leadF ws two k (aft s m))
def lead (ws : List Int) (two : Bool) (s : Sp) : Int := leadF ws two (s.2 - s.1).toNat s
theorem lr_ne : ("right" : Str) ≠ ("left" : Str) := by decide +kernel
theorem mvs_ok {two : Bool} {r : Int} {m : Mv} (h : m ∈ mvs two r) : (m.1 = "left" ∨ m.1 = "right") ∧ 1 ≤ m.2 ∧ m.2 ≤ 2 ∧ m.2 ≤ r := by
  unfold mvs at h
  split at h
  · split at h
    · rename_i h2
      simp only [Bool.and_eq_true, decide_eq_true_eq] at h2
      simp only [List.mem_cons, List.mem_nil_iff, or_false] at h
      rcases h with rfl | rfl | rfl | rfl <;> refine ⟨by simp, ?_, ?_, ?_⟩ <;> show (_ : Int) ≤ _ <;> omega
    · simp only [List.mem_cons, List.mem_nil_iff, or_false] at h
      rcases h with rfl | rfl <;> refine ⟨by simp, ?_, ?_, ?_⟩ <;> show (_ : Int) ≤ _ <;> omega
  · cases h
theorem mvs_ne {two : Bool} {r : Int} (h : 0 < r) : mvs two r ≠ [] := by
  unfold mvs
  rw [if_pos h]
  split <;> simp
theorem mvs_len {two : Bool} {r : Int} : (mvs two r).length ≤ 4 := by
  unfold mvs
  split
  · split <;> decide
  · decide
theorem aft_len (s : Sp) (m : Mv) : (aft s m).2 - (aft s m).1 = s.2 - s.1 - m.2 := by
  unfold aft
  split <;> show _ - _ = _ <;> simp only <;> omega
theorem aft_in {s : Sp} {m : Mv} (h1 : 0 ≤ m.2) (h2 : m.2 ≤ s.2 - s.1) : s.1 ≤ (aft s m).1 ∧ (aft s m).2 ≤ s.2 ∧ (aft s m).1 ≤ (aft s m).2 := by
  unfold aft
  split <;> simp only <;> omega
theorem tkn_in {s : Sp} {m : Mv} (h1 : 0 ≤ m.2) (h2 : m.2 ≤ s.2 - s.1) : s.1 ≤ (tkn s m).1 ∧ (tkn s m).2 ≤ s.2 ∧ (tkn s m).1 ≤ (tkn s m).2 := by
  unfold tkn
  split <;> simp only <;> omega
theorem leadF_eq (ws : List Int) (two : Bool) : ∀ (k l : Nat) (s : Sp), (s.2 - s.1).toNat ≤ k → (s.2 - s.1).toNat ≤ l → leadF ws two k s = leadF ws two l s
  | 0, 0, _, _, _ => rfl
  | 0, l + 1, s, hk, _ => by
    show 0 = maxO _
    have : mvs two (s.2 - s.1) = [] := by
      unfold mvs
      rw [if_neg (by omega)]
    rw [this]
    rfl
  | k + 1, 0, s, _, hl => by
    show maxO _ = 0
    have : mvs two (s.2 - s.1) = [] := by
      unfold mvs
      rw [if_neg (by omega)]
    rw [this]
    rfl
  | k + 1, l + 1, s, hk, hl => by
    show maxO _ = maxO _
    congr 1
    refine List.map_congr_left fun m hm => ?_
    obtain ⟨_, h1, _, h2⟩ := mvs_ok hm
    have := aft_len s m
    rw [leadF_eq ws two k l (aft s m) (by omega) (by omega)]
theorem lead_eq (ws : List Int) (two : Bool) (s : Sp) : lead ws two s = maxO ((mvs two (s.2 - s.1)).map fun m => gn ws (tkn s m) - lead ws two (aft s m)) := by
  unfold lead
  rw [leadF_eq ws two _ ((s.2 - s.1).toNat + 1) s (Nat.le_refl _) (Nat.le_succ _)]
  show maxO _ = maxO _
  congr 1
  refine List.map_congr_left fun m hm => ?_
  obtain ⟨_, h1, _, h2⟩ := mvs_ok hm
  have := aft_len s m
  rw [leadF_eq ws two _ ((aft s m).2 - (aft s m).1).toNat (aft s m) (by omega) (Nat.le_refl _)]
theorem foldl_max_mem : ∀ (xs : List Int) (x : Int), xs.foldl max x ∈ x :: xs
  | [], x => List.mem_cons_self
  | y :: xs, x => by
    rw [List.foldl_cons]
    have := foldl_max_mem xs (max x y)
    rcases List.mem_cons.mp this with h | h
    · rw [h]
      rcases Int.le_total x y with l | l
      · rw [Int.max_eq_right l]; simp
      · rw [Int.max_eq_left l]; simp
    · exact List.mem_cons_of_mem _ (List.mem_cons_of_mem _ h)
theorem maxO_mem {xs : List Int} (h : xs ≠ []) : maxO xs ∈ xs := by
  cases xs with
  | nil => exact absurd rfl h
  | cons x xs => exact foldl_max_mem xs x
/-- the least best move -/
def bmv (ws : List Int) (two : Bool) (s : Sp) : Option Mv := (mvs two (s.2 - s.1)).find? fun m => decide (gn ws (tkn s m) - lead ws two (aft s m) = lead ws two s)
theorem bmv_some {ws : List Int} {two : Bool} {s : Sp} (h : s.1 < s.2) : ∃ m, bmv ws two s = some m ∧ m ∈ mvs two (s.2 - s.1) := by
  have h1 := maxO_mem (xs := (mvs two (s.2 - s.1)).map fun m => gn ws (tkn s m) - lead ws two (aft s m)) (by simpa using mvs_ne (two := two) (r := s.2 - s.1) (by omega))
  rw [← lead_eq] at h1
  obtain ⟨m, hm, e⟩ := List.mem_map.mp h1
  have : (bmv ws two s).isSome = true := by
    unfold bmv
    rw [List.find?_isSome]
    exact ⟨m, hm, decide_eq_true e⟩
  obtain ⟨m', e'⟩ := Option.isSome_iff_exists.mp this
  exact ⟨m', e', List.mem_of_find?_eq_some e'⟩
/-! ### as values -/
def spD (s : Sp) : D := .tup [.int s.1, .int s.2]
def mvD (m : Mv) : D := .tup [.str m.1, .int m.2]
def rowD (ws : List Int) : D := .tup (ws.map D.int)
def spKey (s : Sp) : NestedKey := .tup [.num s.1, .num s.2]
def rl (two : Bool) : Str := if two then "two" else "one"
theorem nk_sp (s : Sp) : nk (spD s) = some (spKey s) := rfl
theorem key_sp (s : Sp) : keyOf (spD s) = some (spKey s) := by
  show (if (spKey s).depth ≤ 8 then some (spKey s) else none) = some (spKey s)
  rw [if_pos (show (spKey s).depth ≤ 8 by unfold spKey; simp [NestedKey.depth, NestedKey.depthAll])]
theorem spKey_inj {s t : Sp} (h : spKey s = spKey t) : s = t := by
  unfold spKey at h
  simp only [NestedKey.tup.injEq, List.cons.injEq, NestedKey.num.injEq, and_true] at h
  exact Prod.ext h.1 h.2
theorem fl_mv {m : Mv} {k : Nat} (h : m.1 = ("left" : Str) ∨ m.1 = "right") : Fl (k + 1) (mvD m) := .tup fun x hx => by
  simp only [List.mem_cons, List.mem_nil_iff, or_false] at hx
  rcases hx with rfl | rfl
  · rcases h with h | h <;> rw [h] <;> exact .str _ (by decide +kernel)
  · exact .int _ _
/-- a cut of a row -/
theorem cut_row {ws : List Int} {a b : Int} (h0 : 0 ≤ a) (h1 : a ≤ b) (h2 : b ≤ ws.length) : cutD (ws.map D.int) (some a) (some b) = ((ws.drop a.toNat).take (b.toNat - a.toNat)).map D.int := by
  unfold cutD
  have e1 : HT.sIx (ws.map D.int).length 0 (some a) = a.toNat := by
    show (if a < 0 then _ else min a.toNat _) = _
    rw [if_neg (by omega), List.length_map]
    omega
  have e2 : HT.sIx (ws.map D.int).length (ws.map D.int).length (some b) = b.toNat := by
    show (if b < 0 then _ else min b.toNat _) = _
    rw [if_neg (by omega), List.length_map]
    omega
  rw [e1, e2, List.map_take, List.map_drop]
theorem ints_map : ∀ ns : List Int, intsOf (ns.map D.int) = some ns
  | [] => rfl
  | n :: ns => by
    show (intsOf (ns.map D.int)).map (n :: ·) = _
    rw [ints_map ns]
    rfl
theorem idx_dct (kvs : List (D × D)) (x : D) : idxop (.dct kvs) x = (keyOf x).bind fun k => getD kvs k := by cases x <;> rfl
theorem set_dct (kvs : List (D × D)) (x d : D) : setO (.dct kvs) x d = (keyOf x).bind fun k => if kvs.length < lim then some (.dct (putD kvs k x d)) else none := by cases x <;> rfl
theorem isin_dct (kvs : List (D × D)) (x : D) : isinop x (.dct kvs) = (keyOf x).map fun k => (getD kvs k).isSome := by cases x <;> rfl
theorem set_sp (kvs : List (D × D)) (s : Sp) (d : D) (h : kvs.length < 1000000) : setO (.dct kvs) (spD s) d = some (.dct (putD kvs (spKey s) (spD s) d)) := by
  rw [set_dct, key_sp]
  exact if_pos (show kvs.length < lim from h)
theorem idx_sp (kvs : List (D × D)) (s : Sp) : idxop (.dct kvs) (spD s) = getD kvs (spKey s) := by
  rw [idx_dct, key_sp]
  rfl
theorem isin_sp (kvs : List (D × D)) (s : Sp) : isinop (spD s) (.dct kvs) = some (getD kvs (spKey s)).isSome := by
  rw [isin_dct, key_sp]
  rfl
theorem ints_nil {ds : List D} (h : intsOf ds = some []) : ds = [] := by
  cases ds with
  | nil => rfl
  | cons d ds =>
    cases d with
    | int i =>
      have h : (intsOf ds).map (i :: ·) = some [] := h
      cases q : intsOf ds <;> rw [q] at h <;> cases h
    | _ => cases h
theorem vw_sp (S : Store) (s : Sp) : (Rv.val (spD s)).view S = some (spD s) := rfl
theorem vw_mv (S : Store) (m : Mv) : (Rv.val (mvD m)).view S = some (mvD m) := rfl
theorem vw_row (S : Store) (ws : List Int) : (Rv.val (rowD ws)).view S = some (rowD ws) := rfl
end R
namespace R
open PySem
/-! ### best play -/
def pathF (ws : List Int) (two : Bool) : Nat → Sp → List Mv
  | 0, _ => []
  | k + 1, s => if s.1 < s.2 then (match bmv ws two s with
    | some m => m :: pathF ws two k (aft s m)
    | none => []) else []
theorem pathF_ok (ws : List Int) (two : Bool) : ∀ (k : Nat) (s : Sp) (m : Mv), m ∈ pathF ws two k s → m.1 = "left" ∨ m.1 = "right"
  | 0, _, _, h => by cases h
  | k + 1, s, m, h => by
    unfold pathF at h
    split at h
    · cases q : bmv ws two s with
      | none => rw [q] at h; cases h
      | some m' =>
        rw [q] at h
        rcases List.mem_cons.mp h with h | h
        · subst h
          exact (mvs_ok (List.mem_of_find?_eq_some q)).1
        · exact pathF_ok ws two k _ m h
    · cases h
theorem pathF_len (ws : List Int) (two : Bool) : ∀ (k : Nat) (s : Sp), (pathF ws two k s).length ≤ k
  | 0, _ => Nat.le_refl _
  | k + 1, s => by
    unfold pathF
    split
    · cases q : bmv ws two s with
      | none => exact Nat.zero_le _
      | some m' =>
        have := pathF_len ws two k (aft s m')
        show (m' :: pathF ws two k (aft s m')).length ≤ k + 1
        rw [List.length_cons]
        omega
    · exact Nat.zero_le _
def playD (ws : List Int) (two : Bool) : D := .tup [.int (lead ws two (0, ws.length)), .tup ((pathF ws two ws.length (0, ws.length)).map mvD)]
theorem fl_play (ws : List Int) (two : Bool) : Fl 3 (playD ws two) := .tup fun x hx => by
  simp only [List.mem_cons, List.mem_nil_iff, or_false] at hx
  rcases hx with rfl | rfl
  · exact .int _ _
  · refine .tup fun y hy => ?_
    obtain ⟨m, hm, rfl⟩ := List.mem_map.mp hy
    exact fl_mv (pathF_ok ws two _ _ m hm)
end R
namespace R
open PySem
/-! ### a memo of leads -/
def box : List (Option NestedKey) := (List.range 41).flatMap fun (a : Nat) => (List.range 41).map fun (b : Nat) => some (spKey ((a : Int), (b : Int)))
theorem box_len : box.length = 1681 := by decide +kernel
theorem in_box {s : Sp} (h0 : 0 ≤ s.1) (h1 : s.1 ≤ s.2) (h2 : s.2 ≤ 40) : some (spKey s) ∈ box := by
  unfold box
  refine List.mem_flatMap.mpr ⟨s.1.toNat, List.mem_range.mpr (by omega), List.mem_map.mpr ⟨s.2.toNat, List.mem_range.mpr (by omega), ?_⟩⟩
  rw [Int.toNat_of_nonneg h0, Int.toNat_of_nonneg (by omega)]
def Memo (ws : List Int) (two : Bool) (kvs : List (D × D)) : Prop := (∀ s v, getD kvs (spKey s) = some v → v = .lst [.int (lead ws two s)]) ∧ (keysN kvs).Nodup ∧ ∀ k ∈ keysN kvs, k ∈ box
theorem Memo.nil (ws : List Int) (two : Bool) : Memo ws two [] := ⟨fun s v h => (nomatch h), List.nodup_nil, fun k h => (nomatch h)⟩
theorem Memo.len {ws : List Int} {two : Bool} {kvs : List (D × D)} (h : Memo ws two kvs) : kvs.length ≤ 1681 := by
  have := nodup_sub h.2.1 h.2.2
  rw [box_len] at this
  unfold keysN at this
  rwa [List.length_map] at this
theorem Memo.put {ws : List Int} {two : Bool} {kvs : List (D × D)} (h : Memo ws two kvs) {s : Sp} (h0 : 0 ≤ s.1) (h1 : s.1 ≤ s.2) (h2 : s.2 ≤ 40) : Memo ws two (putD kvs (spKey s) (spD s) (.lst [.int (lead ws two s)])) := by
  refine ⟨fun t v ht => ?_, ?_, ?_⟩
  · by_cases e : t = s
    · subst e
      rw [getD_same (nk_sp t)] at ht
      cases ht
      rfl
    · rw [getD_ne (nk_sp s) fun z => e (spKey_inj z).symm] at ht
      exact h.1 t v ht
  · rw [keys_putD (nk_sp s)]
    split
    · exact h.2.1
    · rename_i q
      refine List.nodup_append.mpr ⟨h.2.1, by simp, fun a ha b hb => ?_⟩
      rw [List.mem_singleton] at hb
      subst hb
      rintro rfl
      exact q (getD_mem.mpr ha)
  · intro k hk
    rw [keys_putD (nk_sp s)] at hk
    split at hk
    · exact h.2.2 k hk
    · rcases List.mem_append.mp hk with hk | hk
      · exact h.2.2 k hk
      · rw [List.mem_singleton] at hk
        subst hk
        exact in_box h0 h1 h2
/-- a walk that ends at the first of a kind, the store moving -/
theorem for_findS {f : D → REnv → Store → OutS} {p : D → Bool} {r : D → Rv} (I : REnv → Store → Prop) (J : Store → Prop) : ∀ (xs : List D) {ρ : REnv} {S : Store}, (∀ x ∈ xs, ∀ ρ S, I ρ S → (p x = true → ∃ S', f x ρ S = .rt (r x) S' ∧ J S') ∧ (p x = false → ∃ ρ' S', f x ρ S = .nx ρ' S' ∧ I ρ' S')) → I ρ S →
    match xs.find? p with
    | some x => ∃ S', forLoop f xs ρ S = .rt (r x) S' ∧ J S'
    | none => ∃ ρ' S', forLoop f xs ρ S = .nx ρ' S' ∧ I ρ' S'
  | [], ρ, S, _, h0 => ⟨ρ, S, rfl, h0⟩
  | x :: xs, ρ, S, h, h0 => by
    obtain ⟨h1, h2⟩ := h x List.mem_cons_self ρ S h0
    rw [List.find?_cons]
    cases q : p x with
    | true =>
      obtain ⟨S', e, hJ⟩ := h1 q
      show ∃ S', forLoop f (x :: xs) ρ S = _ ∧ _
      exact ⟨S', by rw [forLoop, e], hJ⟩
    | false =>
      obtain ⟨ρ', S', e, hI⟩ := h2 q
      have ih := for_findS (f := f) (p := p) (r := r) I J xs (fun y hy => h y (List.mem_cons_of_mem _ hy)) hI
      have step : forLoop f (x :: xs) ρ S = forLoop f xs ρ' S' := by rw [forLoop, e]
      show match xs.find? p with
        | some x => _
        | none => _
      cases q2 : xs.find? p with
      | some y =>
        rw [q2] at ih
        show ∃ S', forLoop f (x :: _) ρ S = _ ∧ _
        rw [step]
        exact ih
      | none =>
        rw [q2] at ih
        show ∃ ρ' S', forLoop f (x :: _) ρ S = _ ∧ _
        rw [step]
        exact ih
end R
namespace R
open PySem
/-! ### a row of ones -/
theorem sum_ones : ∀ k : Nat, (List.replicate k (1 : Int)).sum = k
  | 0 => rfl
  | k + 1 => by
    rw [List.replicate_succ, List.sum_cons, sum_ones k]
    omega
theorem gn_ones {n : Nat} {s : Sp} (h0 : 0 ≤ s.1) (h1 : s.1 ≤ s.2) (h2 : s.2 ≤ n) : gn (List.replicate n 1) s = s.2 - s.1 := by
  unfold gn
  rw [List.drop_replicate, List.take_replicate, sum_ones]
  omega
theorem mvs_one {r : Int} (h : 0 < r) : mvs false r = [(("left" : Str), (1 : Int)), (("right" : Str), (1 : Int))] := by
  unfold mvs
  rw [if_pos h]
  rfl
theorem aft_l (s : Sp) : aft s (("left" : Str), (1 : Int)) = (s.1 + 1, s.2) := if_pos rfl
theorem aft_r (s : Sp) : aft s (("right" : Str), (1 : Int)) = (s.1, s.2 - 1) := if_neg lr_ne
theorem tkn_l (s : Sp) : tkn s (("left" : Str), (1 : Int)) = (s.1, s.1 + 1) := if_pos rfl
theorem tkn_r (s : Sp) : tkn s (("right" : Str), (1 : Int)) = (s.2 - 1, s.2) := if_neg lr_ne
theorem lead_ones (n : Nat) : ∀ (k : Nat) (s : Sp), 0 ≤ s.1 → s.1 ≤ s.2 → s.2 ≤ n → (s.2 - s.1).toNat = k → lead (List.replicate n 1) false s = (k : Int) % 2
  | 0, s, h0, h1, h2, hk => by
    rw [lead_eq]
    unfold mvs
    rw [if_neg (by omega)]
    rfl
  | k + 1, s, h0, h1, h2, hk => by
    have e1 := lead_ones n k (s.1 + 1, s.2) (by show 0 ≤ s.1 + 1; omega) (by show s.1 + 1 ≤ s.2; omega) h2 (by show (s.2 - (s.1 + 1)).toNat = k; omega)
    have e2 := lead_ones n k (s.1, s.2 - 1) h0 (by show s.1 ≤ s.2 - 1; omega) (by show s.2 - 1 ≤ n; omega) (by show (s.2 - 1 - s.1).toNat = k; omega)
    have g1 := gn_ones (n := n) (s := (s.1, s.1 + 1)) h0 (by show s.1 ≤ s.1 + 1; omega) (by show s.1 + 1 ≤ n; omega)
    have g2 := gn_ones (n := n) (s := (s.2 - 1, s.2)) (by show 0 ≤ s.2 - 1; omega) (by show s.2 - 1 ≤ s.2; omega) h2
    rw [lead_eq, mvs_one (by omega), List.map_cons, List.map_cons, List.map_nil, aft_l, aft_r, tkn_l, tkn_r, e1, e2, g1, g2]
    show max _ _ = _
    simp only
    omega
theorem path_ones (n : Nat) : ∀ (k : Nat) (s : Sp), 0 ≤ s.1 → s.1 ≤ s.2 → s.2 ≤ n → (s.2 - s.1).toNat = k → pathF (List.replicate n 1) false k s = List.replicate k (("left" : Str), (1 : Int))
  | 0, s, _, _, _, _ => rfl
  | k + 1, s, h0, h1, h2, hk => by
    have e0 := lead_ones n (k + 1) s h0 h1 h2 hk
    have e1 := lead_ones n k (s.1 + 1, s.2) (by show 0 ≤ s.1 + 1; omega) (by show s.1 + 1 ≤ s.2; omega) h2 (by show (s.2 - (s.1 + 1)).toNat = k; omega)
    have g1 := gn_ones (n := n) (s := (s.1, s.1 + 1)) h0 (by show s.1 ≤ s.1 + 1; omega) (by show s.1 + 1 ≤ n; omega)
    have b : bmv (List.replicate n 1) false s = some (("left" : Str), (1 : Int)) := by
      unfold bmv
      rw [mvs_one (by omega), List.find?_cons, aft_l, tkn_l, e0, e1, g1, decide_eq_true (by simp only; omega)]
    rw [pathF, if_pos (by omega), b]
    show _ :: pathF _ _ k (aft s (("left" : Str), (1 : Int))) = _
    rw [aft_l, path_ones n k (s.1 + 1, s.2) (by show 0 ≤ s.1 + 1; omega) (by show s.1 + 1 ≤ s.2; omega) h2 (by show (s.2 - (s.1 + 1)).toNat = k; omega), List.replicate_succ]
theorem play_ones : playD (List.replicate 40 1) false = .tup [.int 0, .tup ((List.replicate 40 (("left" : Str), (1 : Int))).map mvD)] := by
  unfold playD
  rw [List.length_replicate, path_ones 40 40 (0, (40 : Nat)) (Int.le_refl _) (by decide) (Int.le_refl _) rfl, lead_ones 40 40 (0, (40 : Nat)) (Int.le_refl _) (by decide) (Int.le_refl _) rfl]
  rfl
theorem play_nil (two : Bool) : playD [] two = .tup [.int 0, .tup []] := by
  unfold playD
  rw [lead_eq]
  rfl
end R
namespace R
open PySem
/-! ### plays -/
def aftL (s : Sp) (ms : List Mv) : Sp := ms.foldl aft s
def spans (s : Sp) : List Mv → List Sp
  | [] => [s]
  | m :: ms => s :: spans (aft s m) ms
def Legal (two : Bool) : Sp → List Mv → Prop
  | _, [] => True
  | s, m :: ms => m ∈ mvs two (s.2 - s.1) ∧ Legal two (aft s m) ms
theorem aftL_app (s : Sp) (ms : List Mv) (m : Mv) : aftL s (ms ++ [m]) = aft (aftL s ms) m := by
  unfold aftL
  rw [List.foldl_append]
  rfl
theorem spans_app : ∀ (s : Sp) (ms : List Mv) (m : Mv), spans s (ms ++ [m]) = spans s ms ++ [aftL s (ms ++ [m])]
  | s, [], m => rfl
  | s, k :: ms, m => by
    show s :: spans (aft s k) (ms ++ [m]) = s :: (spans (aft s k) ms ++ _)
    rw [spans_app (aft s k) ms m]
    rfl
theorem spans_len : ∀ (s : Sp) (ms : List Mv), (spans s ms).length = ms.length + 1
  | _, [] => rfl
  | s, m :: ms => by
    show (spans (aft s m) ms).length + 1 = _
    rw [spans_len]
    rfl
theorem spans_last : ∀ (s : Sp) (ms : List Mv), ∃ l, spans s ms = l ++ [aftL s ms]
  | s, [] => ⟨[], rfl⟩
  | s, m :: ms => by
    obtain ⟨l, e⟩ := spans_last (aft s m) ms
    exact ⟨s :: l, by show s :: spans (aft s m) ms = _; rw [e]; rfl⟩
theorem spans_at : ∀ (s : Sp) (ms : List Mv) (k : Nat), k ≤ ms.length → (spans s ms)[k]? = some (aftL s (ms.take k))
  | s, [], k, h => by
    obtain rfl : k = 0 := by simpa using h
    rfl
  | s, m :: ms, 0, _ => rfl
  | s, m :: ms, k + 1, h => by
    show (spans (aft s m) ms)[k]? = _
    rw [spans_at (aft s m) ms k (by simpa using h)]
    rfl
theorem Legal.app {two : Bool} : ∀ {s : Sp} {ms : List Mv} {m : Mv}, Legal two s ms → m ∈ mvs two ((aftL s ms).2 - (aftL s ms).1) → Legal two s (ms ++ [m])
  | _, [], _, _, h => ⟨h, trivial⟩
  | _, _ :: _, _, h, h2 => ⟨h.1, Legal.app h.2 h2⟩
theorem Legal.take {two : Bool} : ∀ {s : Sp} {ms : List Mv} (k : Nat), Legal two s ms → Legal two s (ms.take k)
  | _, _, 0, _ => by rw [List.take_zero]; exact trivial
  | _, [], _ + 1, _ => trivial
  | _, _ :: _, k + 1, h => ⟨h.1, Legal.take k h.2⟩
theorem Legal.ok {two : Bool} : ∀ {s : Sp} {ms : List Mv}, Legal two s ms → ∀ m ∈ ms, (m.1 = ("left" : Str) ∨ m.1 = "right") ∧ 1 ≤ m.2 ∧ m.2 ≤ 2
  | _, [], _, _, h => by cases h
  | _, m :: ms, h, k, hk => by
    rcases List.mem_cons.mp hk with rfl | hk
    · obtain ⟨a, b, c, _⟩ := mvs_ok h.1
      exact ⟨a, b, c⟩
    · exact Legal.ok h.2 k hk
theorem Legal.in_ {two : Bool} : ∀ {s : Sp} {ms : List Mv}, s.1 ≤ s.2 → Legal two s ms → s.1 ≤ (aftL s ms).1 ∧ (aftL s ms).1 ≤ (aftL s ms).2 ∧ (aftL s ms).2 ≤ s.2 ∧ (aftL s ms).2 - (aftL s ms).1 = s.2 - s.1 - (ms.map (·.2)).sum
  | s, [], hs, _ => ⟨Int.le_refl _, hs, Int.le_refl _, by show s.2 - s.1 = s.2 - s.1 - 0; omega⟩
  | s, m :: ms, hs, h => by
    obtain ⟨_, m1, _, m3⟩ := mvs_ok h.1
    obtain ⟨a1, a2, a3⟩ := aft_in (s := s) (m := m) (by omega) m3
    have al := aft_len s m
    obtain ⟨b1, b2, b3, b4⟩ := Legal.in_ (s := aft s m) (ms := ms) a3 h.2
    show s.1 ≤ (aftL (aft s m) ms).1 ∧ (aftL (aft s m) ms).1 ≤ (aftL (aft s m) ms).2 ∧ (aftL (aft s m) ms).2 ≤ s.2 ∧ (aftL (aft s m) ms).2 - (aftL (aft s m) ms).1 = s.2 - s.1 - (m.2 + (ms.map (·.2)).sum)
    omega
theorem Legal.len {two : Bool} : ∀ {s : Sp} {ms : List Mv}, s.1 ≤ s.2 → Legal two s ms → (ms.length : Int) ≤ s.2 - s.1
  | s, [], hs, _ => by show (0 : Int) ≤ _; omega
  | s, m :: ms, hs, h => by
    obtain ⟨_, m1, _, m3⟩ := mvs_ok h.1
    obtain ⟨a1, a2, a3⟩ := aft_in (s := s) (m := m) (by omega) m3
    have al := aft_len s m
    have := Legal.len (s := aft s m) (ms := ms) a3 h.2
    rw [List.length_cons]
    omega
theorem sum_split {ws : List Int} {a b c : Nat} (h1 : a ≤ b) (h2 : b ≤ c) : ((ws.drop a).take (c - a)).sum = ((ws.drop a).take (b - a)).sum + ((ws.drop b).take (c - b)).sum := by
  have : (ws.drop a).take (c - a) = (ws.drop a).take (b - a) ++ (ws.drop b).take (c - b) := by
    rw [show c - a = (b - a) + (c - b) by omega, List.take_add, List.drop_drop, show a + (b - a) = b by omega]
  rw [this, List.sum_append]
theorem gn_part {ws : List Int} {s : Sp} {m : Mv} (h0 : 0 ≤ s.1) (hm : 0 ≤ m.2) (hl : m.2 ≤ s.2 - s.1) : gn ws s - gn ws (aft s m) = gn ws (tkn s m) := by
  unfold gn aft tkn
  split
  · have := sum_split (ws := ws) (a := s.1.toNat) (b := (s.1 + m.2).toNat) (c := s.2.toNat) (by omega) (by omega)
    simp only
    omega
  · have := sum_split (ws := ws) (a := s.1.toNat) (b := (s.2 - m.2).toNat) (c := s.2.toNat) (by omega) (by omega)
    simp only
    omega
/-- what the two have taken -/
def tookF (ws : List Int) (s : Sp) (ms : List Mv) : Nat → Int × Int
  | 0 => (0, 0)
  | k + 1 => match ms[k]? with
    | none => tookF ws s ms k
    | some m => if k % 2 = 0 then ((tookF ws s ms k).1 + gn ws (tkn (aftL s (ms.take k)) m), (tookF ws s ms k).2) else ((tookF ws s ms k).1, (tookF ws s ms k).2 + gn ws (tkn (aftL s (ms.take k)) m))
end R
namespace R
open PySem
theorem ne_same {k : Nat} {x : D} (h : Fl k x) (hk : k ≤ 64) : cmpop .ne x x = some false := by
  rw [cmpop_ne, eq_self h hk]
  rfl
theorem fl_mvs {ms : List Mv} (h : ∀ m ∈ ms, m.1 = ("left" : Str) ∨ m.1 = "right") : ∀ x ∈ ms.map mvD, Fl 1 x := fun x hx => by
  obtain ⟨k, hk, rfl⟩ := List.mem_map.mp hx
  exact fl_mv (h k hk)
theorem cut_last (xs : List D) : cutD xs none (some (-1)) = xs.dropLast := by
  unfold cutD
  have e1 : HT.sIx xs.length 0 none = 0 := rfl
  have e2 : HT.sIx xs.length xs.length (some (-1)) = xs.length - 1 := by
    show (if (-1 : Int) < 0 then ((-1 : Int) + (xs.length : Int)).toNat else min (-1 : Int).toNat xs.length) = xs.length - 1
    rw [if_pos (by decide)]
    omega
  rw [e1, e2, List.drop_zero, Nat.sub_zero, List.dropLast_eq_take]
end R

set_option maxHeartbeats 1000000
/-! Plain mathematics: plans, what they bring. -/
namespace R
open PySem
/-- a standing: the span, the last side, whose turn -/
abbrev Sg := Sp × Str × Bool
abbrev Tb3 := Int → Int → Str → Mv
def okL (s : Str) : Prop := s = "left" ∨ s = "none" ∨ s = "right"
def okTb (T : Tb3) : Prop := ∀ r l s, (r = 0 ∨ r = 1) → (l = 0 ∨ l = 1) → okL s → ((T r l s).1 = ("left" : Str) ∨ (T r l s).1 = "right") ∧ ((T r l s).2 = 1 ∨ (T r l s).2 = 2)
def rest (st : Sg) : Int := st.1.2 - st.1.1
def ownM (two : Bool) (T : Tb3) (st : Sg) : Mv := ((T (rest st % 2) (st.1.1 % 2) st.2.1).1, if two = false ∨ rest st = 1 then 1 else (T (rest st % 2) (st.1.1 % 2) st.2.1).2)
def mvA (two : Bool) (T : Tb3) (st : Sg) : List Mv := if st.2.2 = true then (if 0 < rest st then [ownM two T st] else []) else mvs two (rest st)
def aftS (st : Sg) (m : Mv) : Sg := (aft st.1 m, if st.2.2 = true then "none" else m.1, !st.2.2)
def gnS (ws : List Int) (st : Sg) (m : Mv) : Int := if st.2.2 = true then gn ws (tkn st.1 m) else -gn ws (tkn st.1 m)
def minO : List Int → Int
  | [] => 0
  | x :: xs => xs.foldl min x
def VF (ws : List Int) (two : Bool) (T : Tb3) : Nat → Sg → Int
  | 0, _ => 0
  | k + 1, st => minO ((mvA two T st).map fun m => gnS ws st m + VF ws two T k (aftS st m))
def V (ws : List Int) (two : Bool) (T : Tb3) (st : Sg) : Int := VF ws two T (rest st).toNat st
theorem mvA_nil {two : Bool} {T : Tb3} {st : Sg} (h : ¬ 0 < rest st) : mvA two T st = [] := by
  unfold mvA mvs
  rw [if_neg h, if_neg h]
  split <;> rfl
theorem mvA_ne {two : Bool} {T : Tb3} {st : Sg} (h : 0 < rest st) : mvA two T st ≠ [] := by
  unfold mvA
  rw [if_pos h]
  split
  · simp
  · exact mvs_ne h
theorem mvA_ok {two : Bool} {T : Tb3} (hT : okTb T) {st : Sg} (hl : okL st.2.1) {m : Mv} (h : m ∈ mvA two T st) : (m.1 = "left" ∨ m.1 = "right") ∧ 1 ≤ m.2 ∧ m.2 ≤ 2 ∧ m.2 ≤ rest st := by
  unfold mvA at h
  split at h
  · split at h
    · rename_i h0
      rw [List.mem_singleton] at h
      subst h
      obtain ⟨a, b⟩ := hT (rest st % 2) (st.1.1 % 2) st.2.1 (by omega) (by omega) hl
      refine ⟨a, ?_⟩
      unfold ownM
      simp only
      split
      · omega
      · rename_i hn
        simp only [not_or] at hn
        omega
    · cases h
  · exact mvs_ok h
theorem aftS_rest (st : Sg) (m : Mv) : rest (aftS st m) = rest st - m.2 := aft_len st.1 m
theorem aftS_last {st : Sg} {m : Mv} (h : m.1 = ("left" : Str) ∨ m.1 = "right") : okL (aftS st m).2.1 := by
  unfold aftS okL
  simp only
  split
  · exact .inr (.inl rfl)
  · rcases h with h | h
    · exact .inl h
    · exact .inr (.inr h)
theorem VF_eq (ws : List Int) (two : Bool) (T : Tb3) (hT : okTb T) : ∀ (k l : Nat) (st : Sg), okL st.2.1 → (rest st).toNat ≤ k → (rest st).toNat ≤ l → VF ws two T k st = VF ws two T l st
  | 0, 0, _, _, _, _ => rfl
  | 0, l + 1, st, _, hk, _ => by
    show 0 = minO _
    rw [mvA_nil (by omega)]
    rfl
  | k + 1, 0, st, _, _, hl => by
    show minO _ = 0
    rw [mvA_nil (by omega)]
    rfl
  | k + 1, l + 1, st, ho, hk, hl => by
    show minO _ = minO _
    congr 1
    refine List.map_congr_left fun m hm => ?_
    obtain ⟨h0, h1, _, h2⟩ := mvA_ok hT ho hm
    have := aftS_rest st m
    rw [VF_eq ws two T hT k l (aftS st m) (aftS_last h0) (by omega) (by omega)]
theorem V_eq {ws : List Int} {two : Bool} {T : Tb3} (hT : okTb T) {st : Sg} (ho : okL st.2.1) : V ws two T st = minO ((mvA two T st).map fun m => gnS ws st m + V ws two T (aftS st m)) := by
  unfold V
  rw [VF_eq ws two T hT _ ((rest st).toNat + 1) st ho (Nat.le_refl _) (Nat.le_succ _)]
  show minO _ = minO _
  congr 1
  refine List.map_congr_left fun m hm => ?_
  obtain ⟨h0, h1, _, h2⟩ := mvA_ok hT ho hm
  have := aftS_rest st m
  rw [VF_eq ws two T hT _ (rest (aftS st m)).toNat (aftS st m) (aftS_last h0) (by omega) (Nat.le_refl _)]
theorem foldl_min_mem : ∀ (xs : List Int) (x : Int), xs.foldl min x ∈ x :: xs
  | [], x => List.mem_cons_self
  | y :: xs, x => by
    rw [List.foldl_cons]
    have := foldl_min_mem xs (min x y)
    rcases List.mem_cons.mp this with h | h
    · rw [h]
      rcases Int.le_total x y with l | l
      · rw [Int.min_eq_left l]; simp
      · rw [Int.min_eq_right l]; simp
    · exact List.mem_cons_of_mem _ (List.mem_cons_of_mem _ h)
theorem foldl_min_le : ∀ (xs : List Int) (x : Int), xs.foldl min x ≤ x ∧ ∀ y ∈ xs, xs.foldl min x ≤ y
  | [], x => ⟨Int.le_refl _, fun y h => nomatch h⟩
  | z :: xs, x => by
    rw [List.foldl_cons]
    obtain ⟨a, b⟩ := foldl_min_le xs (min x z)
    refine ⟨Int.le_trans a (Int.min_le_left _ _), fun y h => ?_⟩
    rcases List.mem_cons.mp h with rfl | h
    · exact Int.le_trans a (Int.min_le_right _ _)
    · exact b y h
theorem minO_mem {xs : List Int} (h : xs ≠ []) : minO xs ∈ xs := by
  cases xs with
  | nil => exact absurd rfl h
  | cons x xs => exact foldl_min_mem xs x
theorem minO_le {xs : List Int} {y : Int} (h : y ∈ xs) : minO xs ≤ y := by
  cases xs with
  | nil => cases h
  | cons x xs =>
    rcases List.mem_cons.mp h with rfl | h
    · exact (foldl_min_le xs y).1
    · exact (foldl_min_le xs x).2 y h
/-- the first move within reach of the least -/
def gmv (ws : List Int) (two : Bool) (T : Tb3) (st : Sg) : Option Mv := (mvA two T st).find? fun m => decide (gnS ws st m + V ws two T (aftS st m) ≤ V ws two T st)
theorem gmv_some {ws : List Int} {two : Bool} {T : Tb3} (hT : okTb T) {st : Sg} (ho : okL st.2.1) (h : 0 < rest st) : ∃ m, gmv ws two T st = some m ∧ m ∈ mvA two T st ∧ gnS ws st m + V ws two T (aftS st m) = V ws two T st := by
  have h1 := minO_mem (xs := (mvA two T st).map fun m => gnS ws st m + V ws two T (aftS st m)) (by simpa using mvA_ne (two := two) (T := T) h)
  rw [← V_eq hT ho] at h1
  obtain ⟨m, hm, e⟩ := List.mem_map.mp h1
  have : (gmv ws two T st).isSome = true := by
    unfold gmv
    rw [List.find?_isSome]
    exact ⟨m, hm, decide_eq_true (Int.le_of_eq e)⟩
  obtain ⟨m', e'⟩ := Option.isSome_iff_exists.mp this
  have hm' := List.mem_of_find?_eq_some e'
  refine ⟨m', e', hm', ?_⟩
  have a := List.find?_some e'
  have a := of_decide_eq_true a
  have b := minO_le (List.mem_map.mpr ⟨m', hm', rfl⟩ : gnS ws st m' + V ws two T (aftS st m') ∈ (mvA two T st).map fun m => gnS ws st m + V ws two T (aftS st m))
  rw [← V_eq hT ho] at b
  omega
/-- the greedy moves of the other one -/
def gpath (ws : List Int) (two : Bool) (T : Tb3) : Nat → Sg → List Mv
  | 0, _ => []
  | k + 1, st => if 0 < rest st then (match gmv ws two T st with
    | some m => (if st.2.2 = true then [] else [m]) ++ gpath ws two T k (aftS st m)
    | none => []) else []
/-- all plays: the lead, the other one's moves -/
def plays (ws : List Int) (two : Bool) (T : Tb3) : Nat → Sg → List (Int × List Mv)
  | 0, _ => [(0, [])]
  | k + 1, st => if rest st = 0 then [(0, [])] else (mvA two T st).flatMap fun m => (plays ws two T k (aftS st m)).map fun p => (p.1 + gnS ws st m, if st.2.2 = true then p.2 else m :: p.2)
theorem V_end {ws : List Int} {two : Bool} {T : Tb3} {st : Sg} (h : ¬ 0 < rest st) : V ws two T st = 0 := by
  unfold V
  rw [show (rest st).toNat = 0 by omega]
  rfl
theorem V_le {ws : List Int} {two : Bool} {T : Tb3} (hT : okTb T) {st : Sg} (ho : okL st.2.1) {m : Mv} (hm : m ∈ mvA two T st) : V ws two T st ≤ gnS ws st m + V ws two T (aftS st m) := by
  rw [V_eq hT ho]
  exact minO_le (List.mem_map.mpr ⟨m, hm, rfl⟩)
/-- no play is below the least -/
theorem plays_le {ws : List Int} {two : Bool} {T : Tb3} (hT : okTb T) : ∀ (k : Nat) (st : Sg), okL st.2.1 → 0 ≤ rest st → (rest st).toNat ≤ k → ∀ p ∈ plays ws two T k st, V ws two T st ≤ p.1
  | 0, st, ho, h0, hk, p, hp => by
    unfold plays at hp
    rw [List.mem_singleton] at hp
    subst hp
    rw [V_end (by omega)]
    exact Int.le_refl _
  | k + 1, st, ho, h0, hk, p, hp => by
    unfold plays at hp
    split at hp
    · rename_i h
      rw [List.mem_singleton] at hp
      subst hp
      rw [V_end (by omega)]
      exact Int.le_refl _
    · obtain ⟨m, hm, hp⟩ := List.mem_flatMap.mp hp
      obtain ⟨q, hq, rfl⟩ := List.mem_map.mp hp
      obtain ⟨a1, a2, _, a3⟩ := mvA_ok hT ho hm
      have ar := aftS_rest st m
      have := plays_le hT k (aftS st m) (aftS_last a1) (by omega) (by omega) q hq
      have := V_le (ws := ws) hT ho hm
      show _ ≤ q.1 + gnS ws st m
      omega
/-- the greedy play is among them -/
theorem plays_mem {ws : List Int} {two : Bool} {T : Tb3} (hT : okTb T) : ∀ (k : Nat) (st : Sg), okL st.2.1 → 0 ≤ rest st → (rest st).toNat ≤ k → (V ws two T st, gpath ws two T k st) ∈ plays ws two T k st
  | 0, st, ho, h0, hk => by
    rw [V_end (by omega)]
    exact List.mem_singleton.mpr rfl
  | k + 1, st, ho, h0, hk => by
    unfold plays gpath
    split
    · rename_i h
      rw [if_neg (by omega), V_end (by omega)]
      exact List.mem_singleton.mpr rfl
    · obtain ⟨m, e, hm, ev⟩ := gmv_some (ws := ws) (two := two) hT ho (show 0 < rest st by omega)
      obtain ⟨a1, a2, _, a3⟩ := mvA_ok hT ho hm
      have ar := aftS_rest st m
      have ih := plays_mem (ws := ws) (two := two) hT k (aftS st m) (aftS_last a1) (by omega) (by omega)
      rw [if_pos (by omega), e]
      refine List.mem_flatMap.mpr ⟨m, hm, List.mem_map.mpr ⟨_, ih, ?_⟩⟩
      refine Prod.ext ?_ ?_
      · show V ws two T (aftS st m) + gnS ws st m = _
        omega
      · show (if st.2.2 = true then _ else _) = _
        split <;> rfl
def mLt (m m' : Mv) : Prop := (m.1 = ("left" : Str) ∧ m'.1 = ("right" : Str)) ∨ (m.1 = m'.1 ∧ m.2 < m'.2)
def seqLt : List Mv → List Mv → Prop
  | m :: a, m' :: b => mLt m m' ∨ (m = m' ∧ seqLt a b)
  | _, _ => False
theorem mvs_asc (two : Bool) (r : Int) : (mvs two r).Pairwise mLt := by
  unfold mvs mLt
  split
  · split
    · simp
    · simp
  · exact .nil
theorem find_first {α : Type} {R : α → α → Prop} {p : α → Bool} : ∀ {xs : List α} {a b : α}, xs.Pairwise R → xs.find? p = some a → b ∈ xs → p b = true → a = b ∨ R a b
  | [], _, _, _, h, _, _ => by cases h
  | x :: xs, a, b, hp, h, hb, pb => by
    rw [List.find?_cons] at h
    rw [List.pairwise_cons] at hp
    cases q : p x with
    | true =>
      rw [q] at h
      cases h
      rcases List.mem_cons.mp hb with rfl | hb
      · exact .inl rfl
      · exact .inr (hp.1 b hb)
    | false =>
      rw [q] at h
      rcases List.mem_cons.mp hb with rfl | hb
      · rw [q] at pb; cases pb
      · exact find_first hp.2 h hb pb
theorem plays_least {ws : List Int} {two : Bool} {T : Tb3} (hT : okTb T) : ∀ (k : Nat) (st : Sg), okL st.2.1 → 0 ≤ rest st → (rest st).toNat ≤ k → ∀ o, (V ws two T st, o) ∈ plays ws two T k st → gpath ws two T k st = o ∨ seqLt (gpath ws two T k st) o
  | 0, st, ho, h0, hk, o, h => by
    unfold plays at h
    rw [List.mem_singleton] at h
    exact .inl (congrArg Prod.snd h).symm
  | k + 1, st, ho, h0, hk, o, h => by
    unfold plays at h
    unfold gpath
    split at h
    · rename_i h0
      rw [List.mem_singleton] at h
      rw [if_neg (by omega)]
      exact .inl (congrArg Prod.snd h).symm
    · obtain ⟨m, hm, hp⟩ := List.mem_flatMap.mp h
      obtain ⟨q, hq, e⟩ := List.mem_map.mp hp
      obtain ⟨a1, a2, _, a3⟩ := mvA_ok hT ho hm
      have ar := aftS_rest st m
      have b1 := plays_le hT k (aftS st m) (aftS_last a1) (by omega) (by omega) q hq
      have b2 := V_le (ws := ws) hT ho hm
      have e1 : q.1 + gnS ws st m = V ws two T st := congrArg Prod.fst e
      have e2 : (if st.2.2 = true then q.2 else m :: q.2) = o := congrArg Prod.snd e
      have hqv : q.1 = V ws two T (aftS st m) := by omega
      have hq2 : (V ws two T (aftS st m), q.2) ∈ plays ws two T k (aftS st m) := by rw [← hqv]; exact hq
      have ih := plays_least hT k (aftS st m) (aftS_last a1) (by omega) (by omega) q.2 hq2
      obtain ⟨m0, e0, hm0, ev0⟩ := gmv_some (ws := ws) (two := two) hT ho (show 0 < rest st by omega)
      rw [if_pos (by omega), e0]
      simp only
      by_cases own : st.2.2 = true
      · have hone : m = m0 := by
          unfold mvA at hm hm0
          rw [if_pos own, if_pos (by omega), List.mem_singleton] at hm hm0
          rw [hm, hm0]
        subst hone
        rw [if_pos own] at e2 ⊢
        rw [List.nil_append, ← e2]
        exact ih
      · rw [if_neg own] at e2 ⊢
        rw [← e2]
        have asc : (mvA two T st).Pairwise mLt := by
          unfold mvA
          rw [if_neg own]
          exact mvs_asc _ _
        rcases find_first asc e0 hm (decide_eq_true (by omega)) with h | h
        · subst h
          rcases ih with ih | ih
          · exact .inl (by rw [ih]; rfl)
          · exact .inr (.inr ⟨rfl, ih⟩)
        · exact .inr (.inl h)
/-! ### the least of tuples of moves -/
def mvP (m : Mv) : PyData := .tuple [.str m.1, .int m.2]
def okM (m : Mv) : Prop := (m.1 = ("left" : Str) ∨ m.1 = "right") ∧ (m.2 = 1 ∨ m.2 = 2)
theorem pyAll_mv : ∀ a : List Mv, pyAll (a.map mvD) = some (a.map mvP)
  | [] => rfl
  | m :: a => by
    rw [List.map_cons, List.map_cons]
    unfold pyAll
    rw [pyAll_mv a]
    rfl
def seqD (a : List Mv) : D := .tup (a.map mvD)
theorem py_seq (a : List Mv) : py (seqD a) = some (.tuple (a.map mvP)) := by
  show (pyAll (a.map mvD)).map _ = _
  rw [pyAll_mv]
  rfl
theorem alike_mv (m m' : Mv) : PySem.W.alike (mvP m) (mvP m') = true := rfl
theorem eqv_self_mv {m : Mv} (h : okM m) : PyData.eqv (mvP m) (mvP m) = true := by
  obtain ⟨t, n⟩ := m
  obtain ⟨h1, h2⟩ := h
  rcases h1 with h | h <;> cases h <;> rcases h2 with h | h <;> cases h <;> decide +kernel
theorem lt_mv {m m' : Mv} (h : okM m) (h' : okM m') (l : mLt m m') : PyData.eqv (mvP m) (mvP m') = false ∧ PyData.eqv (mvP m') (mvP m) = false ∧ PySem.W.dataLt (mvP m) (mvP m') = true ∧ PySem.W.dataLt (mvP m') (mvP m) = false := by
  obtain ⟨t, n⟩ := m
  obtain ⟨t', n'⟩ := m'
  obtain ⟨h1, h2⟩ := h
  obtain ⟨h1', h2'⟩ := h'
  rcases l with ⟨a, b⟩ | ⟨a, b⟩
  · cases a
    cases b
    rcases h2 with h | h <;> cases h <;> rcases h2' with h | h <;> cases h <;> decide +kernel
  · have a : t = t' := a
    subst a
    have b : n < n' := b
    rcases h2 with h | h <;> cases h <;> rcases h2' with h | h <;> cases h
    · exact absurd b (by decide)
    · rcases h1 with h | h <;> cases h <;> decide +kernel
    · exact absurd b (by decide)
    · exact absurd b (by decide)
theorem lt_seq : ∀ {a b : List Mv}, (∀ m ∈ a, okM m) → (∀ m ∈ b, okM m) → seqLt a b →
    PyProof.Rows.lexLt PyProof.Rows.itemOrd (PySem.W.keyToksAll (a.map mvP)) (PySem.W.keyToksAll (b.map mvP)) = true ∧ PyProof.Rows.lexLt PyProof.Rows.itemOrd (PySem.W.keyToksAll (b.map mvP)) (PySem.W.keyToksAll (a.map mvP)) = false
  | [], _, _, _, h => by cases h
  | _ :: _, [], _, _, h => by cases h
  | m :: a, m' :: b, h1, h2, h => by
    rw [List.map_cons, List.map_cons, PySem.W.dataLt_cons (alike_mv m m'), PySem.W.dataLt_cons (alike_mv m' m)]
    rcases h with h | ⟨rfl, h⟩
    · obtain ⟨e1, e2, e3, e4⟩ := lt_mv (h1 m List.mem_cons_self) (h2 m' List.mem_cons_self) h
      rw [e1, e2]
      exact ⟨e3, e4⟩
    · rw [eqv_self_mv (h1 m List.mem_cons_self)]
      exact lt_seq (fun k hk => h1 k (List.mem_cons_of_mem _ hk)) (fun k hk => h2 k (List.mem_cons_of_mem _ hk)) h
theorem ltB_seq {a b : List Mv} (h1 : ∀ m ∈ a, okM m) (h2 : ∀ m ∈ b, okM m) (h : seqLt a b) : ltB (seqD a) (seqD b) = true ∧ ltB (seqD b) (seqD a) = false := by
  unfold ltB
  rw [py_seq, py_seq]
  simp only [PySem.W.dataLt_tuple]
  exact lt_seq h1 h2 h
theorem alikeAll_mv : ∀ a b : List Mv, PySem.W.alikeAll (a.map mvP) (b.map mvP) = true
  | [], _ => by rw [List.map_nil]; unfold PySem.W.alikeAll; rfl
  | _ :: _, [] => by rw [List.map_nil, List.map_cons]; unfold PySem.W.alikeAll; rfl
  | m :: a, m' :: b => by
    rw [List.map_cons, List.map_cons]
    unfold PySem.W.alikeAll
    rw [alike_mv, alikeAll_mv a b]
    rfl
theorem depth_mv : ∀ a : List Mv, PyData.depthAll (a.map mvP) ≤ 1
  | [] => Nat.zero_le _
  | m :: a => by
    rw [List.map_cons]
    unfold PyData.depthAll
    have := depth_mv a
    have h : (mvP m).depth ≤ 1 := by
      unfold mvP PyData.depth PyData.depthAll PyData.depthAll PyData.depthAll PyData.depth
      decide
    omega
theorem pyAll_seq : ∀ xs : List (List Mv), pyAll (xs.map seqD) = some (xs.map fun a => PyData.tuple (a.map mvP))
  | [] => rfl
  | a :: xs => by
    rw [List.map_cons, List.map_cons]
    unfold pyAll
    rw [py_seq, pyAll_seq xs]
theorem depth_seq : ∀ xs : List (List Mv), PyData.depthAll (xs.map fun a => PyData.tuple (a.map mvP)) ≤ 2
  | [] => Nat.zero_le _
  | a :: xs => by
    rw [List.map_cons]
    unfold PyData.depthAll
    have := depth_seq xs
    have h : (PyData.tuple (a.map mvP)).depth ≤ 2 := by
      unfold PyData.depth
      have := depth_mv a
      omega
    omega
theorem alike_seq (xs : List (List Mv)) : alikeB (xs.map fun a => PyData.tuple (a.map mvP)) = true := by
  unfold alikeB
  simp only [Bool.and_eq_true, decide_eq_true_eq, List.all_eq_true, Bool.not_eq_true']
  refine ⟨⟨fun x hx y hy => ?_, fun x hx => ?_⟩, Nat.le_trans (depth_seq xs) (by decide)⟩
  · obtain ⟨a, _, rfl⟩ := List.mem_map.mp hx
    obtain ⟨b, _, rfl⟩ := List.mem_map.mp hy
    unfold PySem.W.alike
    exact alikeAll_mv a b
  · obtain ⟨a, _, rfl⟩ := List.mem_map.mp hx
    rfl
/-- the least, known beforehand -/
theorem fold_min {lt : D → D → Bool} {g : D} : ∀ (xs : List D) (x : D), (x = g ∨ (lt g x = true ∧ lt x g = false)) → (∀ y ∈ xs, y = g ∨ (lt g y = true ∧ lt y g = false)) → (x = g ∨ g ∈ xs) → xs.foldl (fun a y => if lt y a = true then y else a) x = g
  | [], x, _, _, h => by
    rcases h with h | h
    · exact h
    · cases h
  | y :: xs, x, hx, hy, h => by
    rw [List.foldl_cons]
    have hy0 := hy y List.mem_cons_self
    have hys := fun z hz => hy z (List.mem_cons_of_mem _ hz)
    rcases hx with rfl | ⟨hx1, hx2⟩
    · refine fold_min xs _ (.inl ?_) hys (.inl ?_)
      · rcases hy0 with rfl | ⟨_, h2⟩
        · split <;> rfl
        · rw [h2]; rfl
      · rcases hy0 with rfl | ⟨_, h2⟩
        · split <;> rfl
        · rw [h2]; rfl
    · rcases hy0 with rfl | hy0
      · rw [hx1]
        exact fold_min xs _ (.inl rfl) hys (.inl rfl)
      · refine fold_min xs _ ?_ hys (.inr ?_)
        · split
          · exact .inr hy0
          · exact .inr ⟨hx1, hx2⟩
        · rcases h with rfl | h
          · rw [hx1] at hx2; cases hx2
          · rcases List.mem_cons.mp h with rfl | h
            · rw [hy0.1] at hy0; cases hy0.2
            · exact h
theorem minL_seq {xs : List (List Mv)} {g : List Mv} (ok : ∀ a ∈ xs, ∀ m ∈ a, okM m) (hg : g ∈ xs) (h : ∀ a ∈ xs, g = a ∨ seqLt g a) : minL (xs.map seqD) = some (seqD g) := by
  cases xs with
  | nil => cases hg
  | cons x xs =>
    have hp := pyAll_seq (x :: xs)
    have ha := alike_seq (x :: xs)
    show (match pyAll ((x :: xs).map seqD) with
      | some ps => if alikeB ps then some ((xs.map seqD).foldl (fun a y => if ltB y a then y else a) (seqD x)) else none
      | none => none) = _
    rw [hp]
    simp only [ha, if_true]
    congr 1
    have key : ∀ a ∈ x :: xs, seqD a = seqD g ∨ (ltB (seqD g) (seqD a) = true ∧ ltB (seqD a) (seqD g) = false) := fun a ha => by
      rcases h a ha with rfl | h
      · exact .inl rfl
      · exact .inr (ltB_seq (ok g hg) (ok a ha) h)
    refine fold_min _ _ (key x List.mem_cons_self) (fun y hy => ?_) ?_
    · obtain ⟨a, ha, rfl⟩ := List.mem_map.mp hy
      exact key a (List.mem_cons_of_mem _ ha)
    · rcases List.mem_cons.mp hg with rfl | hg
      · exact .inl rfl
      · exact .inr (List.mem_map.mpr ⟨g, hg, rfl⟩)
/-! ### the least of numbers -/
theorem ltB_int (i j : Int) : ltB (.int i) (.int j) = decide (i < j) := PySem.W.dataLt_int i j
theorem pyAll_int : ∀ ns : List Int, pyAll (ns.map D.int) = some (ns.map PyData.int)
  | [] => rfl
  | n :: ns => by
    rw [List.map_cons, List.map_cons]
    unfold pyAll
    rw [pyAll_int ns]
    rfl
theorem depth_int : ∀ ns : List Int, PyData.depthAll (ns.map PyData.int) = 0
  | [] => rfl
  | n :: ns => by
    rw [List.map_cons]
    unfold PyData.depthAll
    rw [depth_int ns]
    rfl
theorem alike_int (ns : List Int) : alikeB (ns.map PyData.int) = true := by
  unfold alikeB
  simp only [Bool.and_eq_true, decide_eq_true_eq, List.all_eq_true, Bool.not_eq_true']
  refine ⟨⟨fun x hx y hy => ?_, fun x hx => ?_⟩, by rw [depth_int]; decide⟩
  · obtain ⟨a, _, rfl⟩ := List.mem_map.mp hx
    obtain ⟨b, _, rfl⟩ := List.mem_map.mp hy
    rfl
  · obtain ⟨a, _, rfl⟩ := List.mem_map.mp hx
    rfl
theorem fold_int : ∀ (ns : List Int) (x : Int), (ns.map D.int).foldl (fun a y => if ltB y a = true then y else a) (.int x) = .int (ns.foldl min x)
  | [], x => rfl
  | n :: ns, x => by
    rw [List.map_cons, List.foldl_cons, List.foldl_cons, ltB_int]
    by_cases h : n < x
    · rw [decide_eq_true h, if_pos rfl, Int.min_eq_right (by omega)]
      exact fold_int ns n
    · rw [decide_eq_false h, if_neg (by decide), Int.min_eq_left (by omega)]
      exact fold_int ns x
theorem minL_int {ns : List Int} (h : ns ≠ []) : minL (ns.map D.int) = some (.int (minO ns)) := by
  cases ns with
  | nil => exact absurd rfl h
  | cons n ns =>
    have hp := pyAll_int (n :: ns)
    have ha := alike_int (n :: ns)
    show (match pyAll ((n :: ns).map D.int) with
      | some ps => if alikeB ps then some ((ns.map D.int).foldl (fun a y => if ltB y a then y else a) (.int n)) else none
      | none => none) = _
    rw [hp]
    simp only [ha, if_true]
    congr 1
    exact fold_int ns n
/-! ### how many plays -/
theorem plays_len {ws : List Int} {two : Bool} {T : Tb3} (hT : okTb T) : ∀ (k : Nat) (st : Sg), okL st.2.1 → 0 ≤ rest st → (rest st).toNat ≤ k → (plays ws two T k st).length ≤ 2 ^ ((rest st).toNat + (if st.2.2 = true then 0 else 1))
  | 0, st, ho, h0, hk => by
    unfold plays
    exact Nat.one_le_two_pow
  | k + 1, st, ho, h0, hk => by
    unfold plays
    split
    · exact Nat.one_le_two_pow
    · rename_i hr
      have len : ∀ m ∈ mvA two T st, ((plays ws two T k (aftS st m)).map fun p => (p.1 + gnS ws st m, if st.2.2 = true then p.2 else m :: p.2)).length ≤ 2 ^ ((rest st - m.2).toNat + (if st.2.2 = true then 1 else 0)) := fun m hm => by
        obtain ⟨a1, a2, _, a3⟩ := mvA_ok hT ho hm
        have ar := aftS_rest st m
        have ih := plays_len (ws := ws) (two := two) hT k (aftS st m) (aftS_last a1) (by omega) (by omega)
        rw [List.length_map]
        rw [ar] at ih
        have e : (if (aftS st m).2.2 = true then 0 else 1) = (if st.2.2 = true then 1 else 0) := by
          show (if (!st.2.2) = true then 0 else 1) = _
          cases st.2.2 <;> rfl
        rw [e] at ih
        exact ih
      obtain ⟨r, hr2⟩ : ∃ r : Nat, rest st = r + 1 := ⟨(rest st - 1).toNat, by omega⟩
      by_cases own : st.2.2 = true
      · rw [if_pos own]
        have hm : mvA two T st = [ownM two T st] := by
          unfold mvA
          rw [if_pos own, if_pos (by omega)]
        have l := len (ownM two T st) (by rw [hm]; exact List.mem_singleton.mpr rfl)
        obtain ⟨a1, a2, _, a3⟩ := mvA_ok hT ho (m := ownM two T st) (by rw [hm]; exact List.mem_singleton.mpr rfl)
        rw [hm, List.flatMap_cons, List.flatMap_nil, List.append_nil]
        rw [if_pos own] at l
        exact Nat.le_trans l (Nat.pow_le_pow_right (by decide) (by omega))
      · rw [if_neg own]
        have hm : mvA two T st = mvs two (rest st) := by
          unfold mvA
          rw [if_neg own]
        simp only [if_neg own, Nat.add_zero] at len
        have b1 : ∀ t : Str, (t, (1 : Int)) ∈ mvA two T st → _ := fun t h => len (t, 1) h
        have b2 : ∀ t : Str, (t, (2 : Int)) ∈ mvA two T st → _ := fun t h => len (t, 2) h
        simp only at b1 b2
        rw [hr2] at b1 b2 ⊢
        have p1 : ((r : Int) + 1 - 1).toNat = r := by omega
        have p0 : ((r : Int) + 1).toNat + 1 = r + 2 := by omega
        have q2 : 2 ^ (r + 2) = 4 * 2 ^ r := by rw [Nat.pow_succ, Nat.pow_succ]; omega
        rw [p1] at b1
        rw [p0, q2]
        simp only [if_neg own]
        rw [hm] at b1 b2 ⊢
        rw [hr2] at b1 b2 ⊢
        unfold mvs at b1 b2 ⊢
        split
        · split
          · rename_i h1 h2
            simp only [h1, h2, if_true] at b1 b2
            simp only [Bool.and_eq_true, decide_eq_true_eq] at h2
            have q1 : 2 * 2 ^ ((r : Int) + 1 - 2).toNat = 2 ^ r := by
              rw [← Nat.pow_succ', show (((r : Int) + 1 - 2).toNat).succ = r by omega]
            have c1 := b1 "left" (by simp)
            have c2 := b1 "right" (by simp)
            have c3 := b2 "left" (by simp)
            have c4 := b2 "right" (by simp)
            simp only [List.flatMap_cons, List.flatMap_nil, List.length_append, List.length_nil]
            omega
          · rename_i h1 h2
            simp only [h1, h2, if_true, if_false, Bool.false_eq_true] at b1
            have c1 := b1 "left" (by simp)
            have c2 := b1 "right" (by simp)
            simp only [List.flatMap_cons, List.flatMap_nil, List.length_append, List.length_nil]
            omega
        · exact Nat.zero_le _
/-! ### tables -/
def keys12 : List (Int × Int × Str) := [(0, 0, "left"), (0, 0, "none"), (0, 0, "right"), (0, 1, "left"), (0, 1, "none"), (0, 1, "right"), (1, 0, "left"), (1, 0, "none"), (1, 0, "right"), (1, 1, "left"), (1, 1, "none"), (1, 1, "right")]
def k3D (k : Int × Int × Str) : D := .tup [.int k.1, .int k.2.1, .str k.2.2]
def tabD (T : Tb3) : List (D × D) := keys12.map fun k => (k3D k, mvD (T k.1 k.2.1 k.2.2))
theorem tab_idx (T : Tb3) {r l : Int} {s : Str} (hr : r = 0 ∨ r = 1) (hl : l = 0 ∨ l = 1) (hs : okL s) : idxop (.dct (tabD T)) (.tup [.int r, .int l, .str s]) = some (mvD (T r l s)) := by
  unfold okL at hs
  rcases hr with rfl | rfl <;> rcases hl with rfl | rfl <;> rcases hs with rfl | rfl | rfl <;> kernel_rfl
/-- a table of drawn values, as far as it is drawn -/
def partD (vs : List Mv) : List (D × D) := List.zipWith (fun k m => (k3D k, mvD m)) keys12 vs
def ofVs (vs : List Mv) : Tb3 := fun r l s => vs.getD ((6 * r + 3 * l).toNat + (if s = ("left" : Str) then 0 else if s = ("none" : Str) then 1 else 2)) (("left" : Str), 1)
theorem part_all {vs : List Mv} (h : vs.length = 12) : partD vs = tabD (ofVs vs) := by
  match vs, h with
  | [a, b, c, d, e, f, g, h, i, j, k, l], _ => kernel_rfl
theorem part_put (m : Mv) : ∀ (vs : List Mv), vs.length < 12 → ∀ k, keys12[vs.length]? = some k → setO (.dct (partD vs)) (k3D k) (mvD m) = some (.dct (partD (vs ++ [m])))
  | [], _, k, h => by cases h; kernel_rfl
  | [m0], _, k, h => by cases h; kernel_rfl
  | [m0, m1], _, k, h => by cases h; kernel_rfl
  | [m0, m1, m2], _, k, h => by cases h; kernel_rfl
  | [m0, m1, m2, m3], _, k, h => by cases h; kernel_rfl
  | [m0, m1, m2, m3, m4], _, k, h => by cases h; kernel_rfl
  | [m0, m1, m2, m3, m4, m5], _, k, h => by cases h; kernel_rfl
  | [m0, m1, m2, m3, m4, m5, m6], _, k, h => by cases h; kernel_rfl
  | [m0, m1, m2, m3, m4, m5, m6, m7], _, k, h => by cases h; kernel_rfl
  | [m0, m1, m2, m3, m4, m5, m6, m7, m8], _, k, h => by cases h; kernel_rfl
  | [m0, m1, m2, m3, m4, m5, m6, m7, m8, m9], _, k, h => by cases h; kernel_rfl
  | [m0, m1, m2, m3, m4, m5, m6, m7, m8, m9, m10], _, k, h => by cases h; kernel_rfl
  | _ :: _ :: _ :: _ :: _ :: _ :: _ :: _ :: _ :: _ :: _ :: _ :: vs, h, _, _ => by simp only [List.length_cons] at h; omega
end R
namespace R
open PySem
/-! ### standings as values -/
def stD (st : Sg) : D := .tup [spD st.1, .str st.2.1, .bl st.2.2]
def stKey (st : Sg) : NestedKey := .tup [spKey st.1, .text st.2.1, .num (if st.2.2 = true then 1 else 0)]
theorem nk_st (st : Sg) : nk (stD st) = some (stKey st) := by
  obtain ⟨s, t, b⟩ := st
  cases b <;> rfl
theorem key_st (st : Sg) : keyOf (stD st) = some (stKey st) := by
  have h := nk_st st
  unfold stD at h ⊢
  unfold keyOf
  simp only [h]
  rw [if_pos (show (stKey st).depth ≤ 8 by unfold stKey spKey; simp [NestedKey.depth, NestedKey.depthAll])]
theorem stKey_inj {s t : Sg} (h : stKey s = stKey t) : s = t := by
  obtain ⟨s, x, b⟩ := s
  obtain ⟨t, y, c⟩ := t
  unfold stKey at h
  simp only [NestedKey.tup.injEq, List.cons.injEq, NestedKey.num.injEq, NestedKey.text.injEq, and_true] at h
  obtain ⟨h1, h2, h3⟩ := h
  have := spKey_inj h1
  subst this
  subst h2
  cases b <;> cases c <;> first | rfl | cases h3
def box3 : List (Option NestedKey) := (List.range 41).flatMap fun (a : Nat) => (List.range 41).flatMap fun (b : Nat) => ([("left" : Str), "none", "right"] : List Str).flatMap fun s => [some (stKey (((a : Int), (b : Int)), s, true)), some (stKey (((a : Int), (b : Int)), s, false))]
theorem box3_len : box3.length = 10086 := by decide +kernel
theorem in_box3 {st : Sg} (h0 : 0 ≤ st.1.1) (h1 : st.1.1 ≤ st.1.2) (h2 : st.1.2 ≤ 40) (ho : okL st.2.1) : some (stKey st) ∈ box3 := by
  obtain ⟨⟨a, b⟩, t, q⟩ := st
  unfold box3
  refine List.mem_flatMap.mpr ⟨a.toNat, List.mem_range.mpr (by simp only at h0 h1 h2; omega), List.mem_flatMap.mpr ⟨b.toNat, List.mem_range.mpr (by simp only at h0 h1 h2; omega), List.mem_flatMap.mpr ⟨t, ?_, ?_⟩⟩⟩
  · have ho : t = "left" ∨ t = "none" ∨ t = "right" := ho
    simp only [List.mem_cons, List.mem_nil_iff, or_false]
    exact ho
  · simp only at h0 h1 h2
    rw [Int.toNat_of_nonneg h0, Int.toNat_of_nonneg (by omega)]
    cases q <;> simp
/-- a memo of what stands at standings -/
def Memo3 (f : Sg → D) (kvs : List (D × D)) : Prop := (∀ s v, getD kvs (stKey s) = some v → v = f s) ∧ (keysN kvs).Nodup ∧ ∀ k ∈ keysN kvs, k ∈ box3
theorem Memo3.nil (f : Sg → D) : Memo3 f [] := ⟨fun s v h => (nomatch h), List.nodup_nil, fun k h => (nomatch h)⟩
theorem Memo3.len {f : Sg → D} {kvs : List (D × D)} (h : Memo3 f kvs) : kvs.length ≤ 10086 := by
  have := nodup_sub h.2.1 h.2.2
  rw [box3_len] at this
  unfold keysN at this
  rwa [List.length_map] at this
theorem Memo3.put {f : Sg → D} {kvs : List (D × D)} (h : Memo3 f kvs) {s : Sg} (h0 : 0 ≤ s.1.1) (h1 : s.1.1 ≤ s.1.2) (h2 : s.1.2 ≤ 40) (ho : okL s.2.1) : Memo3 f (putD kvs (stKey s) (stD s) (f s)) := by
  refine ⟨fun t v ht => ?_, ?_, ?_⟩
  · by_cases e : t = s
    · subst e
      rw [getD_same (nk_st t)] at ht
      cases ht
      rfl
    · rw [getD_ne (nk_st s) fun z => e (stKey_inj z).symm] at ht
      exact h.1 t v ht
  · rw [keys_putD (nk_st s)]
    split
    · exact h.2.1
    · rename_i q
      refine List.nodup_append.mpr ⟨h.2.1, by simp, fun a ha b hb => ?_⟩
      rw [List.mem_singleton] at hb
      subst hb
      rintro rfl
      exact q (getD_mem.mpr ha)
  · intro k hk
    rw [keys_putD (nk_st s)] at hk
    split at hk
    · exact h.2.2 k hk
    · rcases List.mem_append.mp hk with hk | hk
      · exact h.2.2 k hk
      · rw [List.mem_singleton] at hk
        subst hk
        exact in_box3 h0 h1 h2 ho
theorem set_st (kvs : List (D × D)) (s : Sg) (d : D) (h : kvs.length < 1000000) : setO (.dct kvs) (stD s) d = some (.dct (putD kvs (stKey s) (stD s) d)) := by
  rw [set_dct, key_st]
  exact if_pos (show kvs.length < lim from h)
theorem idx_st (kvs : List (D × D)) (s : Sg) : idxop (.dct kvs) (stD s) = getD kvs (stKey s) := by
  rw [idx_dct, key_st]
  rfl
theorem isin_st (kvs : List (D × D)) (s : Sg) : isinop (stD s) (.dct kvs) = some (getD kvs (stKey s)).isSome := by
  rw [isin_dct, key_st]
  rfl
/-- a move's lead, the standing behind it -/
def stpD (ws : List Int) (st : Sg) (m : Mv) : D := .tup [mvD m, .int (gnS ws st m), stD (aftS st m)]
def whS (b : Bool) : Str := if b = true then "first" else "second"
section
variable {X : Tab} {C : Calls} {ρ ρ1 : REnv} {S S1 S2 : Store} {a b e : E} {r : Rv} {d x : D} {c k n : Nat} {ds xs : List D}
theorem ev_fld (h : evE X C a ρ S = .ok r S1) (hv : r.view S1 = some (.ins c ds)) (hc : X.cls c = true) (hk : ds[k]? = some d) : evE X C (.fld c k a) ρ S = .ok (.val d) S1 := by
  rw [evE, h]
  simp only [Out.bind_ok, hv, hc, and_self, if_true, hk]
theorem ev_neg {z : Int} (h : evE X C a ρ S = .ok (.val (.int z)) S1) : evE X C (.neg a) ρ S = .ok (.val (.int (-z))) S1 := by
  rw [evE, h]
  rfl
theorem ev_andF (h1 : evE X C a ρ S = .ok (.val (.bl false)) S1) : evE X C (.and a b) ρ S = .ok (.val (.bl false)) S1 := by
  rw [evE, h1]
  rfl
theorem ev_orT (h1 : evE X C a ρ S = .ok (.val (.bl true)) S1) : evE X C (.or a b) ρ S = .ok (.val (.bl true)) S1 := by
  rw [evE, h1]
  rfl
theorem ev_isinN {x y : D} {q : Bool} {rb : Rv} (h1 : evE X C a ρ S = .ok r S1) (h2 : evE X C b ρ S1 = .ok rb S2) (h3 : r.view S2 = some x) (h4 : rb.view S2 = some y) (h5 : isinop x y = some q) : evE X C (.isin true a b) ρ S = .ok (.val (.bl (!q))) S2 := by
  rw [evE, h1]
  simp only [Out.bind_ok, h2, h3, h4, h5, bne_true2]
theorem ev_seqI (h : evE X C e ρ S = .ok r S1) (hl : r.look.bind D.seq = some xs) : evI X C (.seq e) ρ S = .ok xs S1 := by
  rw [evI, h, Out.bind_ok, hl]
theorem comp_turnG {own tg : List Nat} {elt : E} {ys : List D} (hp : put (wipeE ρ own) tg x = some ρ1) (h : evE X C elt ρ1 S = .ok r S2) (hr : r.frz = some d) (hl : ys.length < lim) :
    compF X C own tg (.cst (.bl true)) .nil elt ρ x S (.lst ys) = .ok (.lst (ys ++ [d])) S2 := by
  show (match put (wipeE ρ own) tg x with
        | some ρ1 => (evE X C (.cst (.bl true)) ρ1 S).bind _
        | none => .bad) = _
  rw [hp]
  simp only
  rw [evE, Out.bind_ok]
  show evC X C .nil _ ρ1 S (.lst ys) = _
  rw [evC, h, Out.bind_ok, hr]
  exact if_pos hl
/-- with a condition -/
theorem comp_turnC {own tg : List Nat} {c elt : E} {ys : List D} {q : Bool} (hp : put (wipeE ρ own) tg x = some ρ1) (hc : evE X C c ρ1 S = .ok (.val (.bl q)) S1) (h : q = true → evE X C elt ρ1 S1 = .ok r S1) (hr : r.frz = some d) (hl : ys.length < lim) :
    compF X C own tg c .nil elt ρ x S (.lst ys) = .ok (.lst (if q = true then ys ++ [d] else ys)) S1 := by
  show (match put (wipeE ρ own) tg x with
        | some ρ1 => (evE X C c ρ1 S).bind _
        | none => .bad) = _
  rw [hp]
  simp only
  rw [hc, Out.bind_ok]
  cases q with
  | false => rfl
  | true =>
    show evC X C .nil _ ρ1 S1 (.lst ys) = _
    rw [evC, h rfl, Out.bind_ok, hr]
    exact if_pos hl
/-- a comprehension's walk, the store moving -/
theorem it_mapS {α : Type} {f : D → Store → O → Out O} {h : α → D} {g : α → D} (J : Store → Prop) : ∀ (l : List α) (ys : List D) (S : Store), J S → ys.length + l.length < lim → (∀ a ∈ l, ∀ ys S, J S → ys.length < lim → ∃ S', J S' ∧ f (h a) S (.lst ys) = .ok (.lst (ys ++ [g a])) S') → ∃ S', J S' ∧ itLoop f (l.map h) S (.lst ys) = .ok (.lst (ys ++ l.map g)) S'
  | [], ys, S, hJ, _, _ => ⟨S, hJ, by rw [List.map_nil, List.map_nil, List.append_nil]; rfl⟩
  | a :: l, ys, S, hJ, hl, hf => by
    rw [List.length_cons] at hl
    obtain ⟨S1, hJ1, e1⟩ := hf a List.mem_cons_self ys S hJ (by omega)
    obtain ⟨S2, hJ2, e2⟩ := it_mapS J l (ys ++ [g a]) S1 hJ1 (by simp; omega) fun b hb => hf b (List.mem_cons_of_mem _ hb)
    refine ⟨S2, hJ2, ?_⟩
    rw [List.map_cons, itLoop, e1, Out.bind_ok, e2, List.map_cons, List.append_assoc]
    rfl
/-- .. that keeps some -/
theorem it_filt {α : Type} {f : D → Store → O → Out O} {h : α → D} {g : α → D} {p : α → Bool} {S : Store} : ∀ (l : List α) (ys : List D), ys.length + l.length < lim → (∀ a ∈ l, ∀ ys, ys.length < lim → f (h a) S (.lst ys) = .ok (.lst (if p a = true then ys ++ [g a] else ys)) S) → itLoop f (l.map h) S (.lst ys) = .ok (.lst (ys ++ (l.filter p).map g)) S
  | [], ys, _, _ => by rw [List.map_nil, List.filter_nil, List.map_nil, List.append_nil]; rfl
  | a :: l, ys, hl, hf => by
    rw [List.length_cons] at hl
    rw [List.map_cons, itLoop, hf a List.mem_cons_self ys (by omega), Out.bind_ok, List.filter_cons]
    cases q : p a with
    | true =>
      rw [if_pos rfl, if_pos rfl, it_filt l (ys ++ [g a]) (by simp; omega) (fun b hb => hf b (List.mem_cons_of_mem _ hb)), List.map_cons, List.append_assoc]
      rfl
    | false =>
      rw [if_neg (by decide), if_neg (by decide), it_filt l ys (by omega) (fun b hb => hf b (List.mem_cons_of_mem _ hb))]
/-- a walk that breaks at the first of a kind -/
theorem for_brk {α : Type} {f : D → REnv → Store → OutS} {g : α → D} {p : α → Bool} (I : REnv → Store → Prop) (J : α → REnv → Store → Prop) : ∀ (l : List α) {ρ : REnv} {S : Store}, (∀ a ∈ l, ∀ ρ S, I ρ S → (p a = true → ∃ ρ' S', f (g a) ρ S = .bk ρ' S' ∧ J a ρ' S') ∧ (p a = false → ∃ ρ' S', f (g a) ρ S = .nx ρ' S' ∧ I ρ' S')) → I ρ S →
    ∀ a, l.find? p = some a → ∃ ρ' S', forLoop f (l.map g) ρ S = .nx ρ' S' ∧ J a ρ' S'
  | [], _, _, _, _, a, h => by cases h
  | x :: l, ρ, S, h, h0, a, ha => by
    obtain ⟨h1, h2⟩ := h x List.mem_cons_self ρ S h0
    rw [List.find?_cons] at ha
    rw [List.map_cons]
    cases q : p x with
    | true =>
      rw [q] at ha
      cases ha
      obtain ⟨ρ', S', e, hJ⟩ := h1 q
      exact ⟨ρ', S', by rw [forLoop, e], hJ⟩
    | false =>
      rw [q] at ha
      obtain ⟨ρ', S', e, hI⟩ := h2 q
      obtain ⟨ρ2, S2, e2, hJ⟩ := for_brk (g := g) I J l (fun y hy => h y (List.mem_cons_of_mem _ hy)) hI a ha
      exact ⟨ρ2, S2, by rw [forLoop, e]; exact e2, hJ⟩
theorem ex_extO {xs ys : List D} (h0 : ρ[n]? = some (.own (.lst xs))) (h : evE X C e ρ S = .ok (.own (.lst ys)) S1) (hl : xs.length + ys.length < lim) : exT X C (.extO n e) ρ S = .nx (ρ.set n (.own (.lst (xs ++ ys)))) S1 := by
  rw [exT, h0]
  simp only [h, Out.thn_ok, hl, if_true]
theorem ex_iteQ {q : Bool} {cc : E} {s t : T} {o : OutS} (hc : evE X C cc ρ S = .ok (.val (.bl q)) S1) (h1 : q = true → exT X C s ρ S1 = o) (h2 : q = false → exT X C t ρ S1 = o) : exT X C (.ite cc s t) ρ S = o := by
  cases q with
  | true => rw [ex_iteT hc]; exact h1 rfl
  | false => rw [ex_iteF hc]; exact h2 rfl
end
end R
namespace R
open PySem
section
variable {X : Tab} {C : Calls} {ρ ρ1 : REnv} {S S1 S2 : Store} {a b e : E} {r : Rv} {d x : D} {c k n : Nat} {ds xs : List D} {s t : T}
theorem sqB (h : exT X C s ρ S = .bk ρ1 S1) : exT X C (.seq s t) ρ S = .bk ρ1 S1 := by
  rw [exT, h]
  rfl
theorem ev_make {f : Nat} {es : Es} {fs : List D} (h : evL X C es ρ S = .ok ds S1) (h2 : C f ds S1 = .ok (.own (.ins c fs)) S2) : evE X C (.make c f es) ρ S = .ok (.own (.ins c fs)) S2 := by
  rw [evE, h]
  simp only [Out.bind_ok, h2, if_true]
theorem ev_toList {xs : List D} (h : evE X C a ρ S = .ok r S1) (hv : r.view S1 = some (.tup xs)) : evE X C (.toList a) ρ S = .ok (.own (.lst xs)) S1 := by
  rw [evE, h]
  simp only [Out.bind_ok, hv]
theorem ev_lenT {xs : List D} (h : evE X C a ρ S = .ok r S1) (hv : r.view S1 = some (.tup xs)) : evE X C (.len a) ρ S = .ok (.val (.int xs.length)) S1 := by
  rw [evE, h]
  simp only [Out.bind_ok, hv]
/-- the worth of some places, a law's way -/
theorem ev_gain {i j : Nat} {ws : List Int} {s : Sp} (hi : ρ[i]? = some (.val (rowD ws))) (hj : ρ[j]? = some (.val (spD s))) (h0 : 0 ≤ s.1) (h1 : s.1 ≤ s.2) (h2 : s.2 ≤ ws.length) :
    evE X C (.blt 0 (.toList (.slc (.var i) (.idx (.var j) (.cst (.int 0))) (.idx (.var j) (.cst (.int 1)))))) ρ S = .ok (.val (.int (gn ws s))) S := by
  have e0 : evE X C (.idx (.var j) (.cst (.int 0))) ρ S = .ok (.val (.int s.1)) S := ev_idx (x := spD s) (y := .int 0) (var_at hj) ev_cst rfl rfl rfl
  have e1 : evE X C (.idx (.var j) (.cst (.int 1))) ρ S = .ok (.val (.int s.2)) S := ev_idx (x := spD s) (y := .int 1) (var_at hj) ev_cst rfl rfl rfl
  have e2 : sliceD (rowD ws) (some s.1) (some s.2) = some (.val (.tup (((ws.drop s.1.toNat).take (s.2.toNat - s.1.toNat)).map D.int))) := by
    show some (Rv.val (.tup (cutD (ws.map D.int) (some s.1) (some s.2)))) = _
    rw [cut_row h0 h1 h2]
  refine ev_blt (x := .lst (((ws.drop s.1.toNat).take (s.2.toNat - s.1.toNat)).map D.int)) (ev_toList (ev_slc (x := rowD ws) (var_at hi) e0 e1 rfl e2) rfl) rfl ?_
  show ((intsOf _).map _) = _
  rw [ints_map]
  rfl
theorem ev_gainS {i j o : Nat} {ws : List Int} {s : Sp} {own : Bool} (hi : ρ[i]? = some (.val (rowD ws))) (hj : ρ[j]? = some (.val (spD s))) (ho : ρ[o]? = some (.val (.bl own))) (h0 : 0 ≤ s.1) (h1 : s.1 ≤ s.2) (h2 : s.2 ≤ ws.length) :
    evE X C (.bin .mul (.blt 0 (.toList (.slc (.var i) (.idx (.var j) (.cst (.int 0))) (.idx (.var j) (.cst (.int 1)))))) (.ite (.var o) (.cst (.int 1)) (.bin .sub (.cst (.int 0)) (.cst (.int 1))))) ρ S = .ok (.val (.int (if own = true then gn ws s else -gn ws s))) S := by
  have e := ev_gain (X := X) (C := C) (S := S) hi hj h0 h1 h2
  cases own with
  | true =>
    refine ev_bin e (rb := .val (.int 1)) (ev_iteT (var_at ho) ev_cst) rfl rfl ?_
    rw [mulS (by decide)]
    show some (Rv.val (.int (gn ws s * 1))) = _
    rw [Int.mul_one]
    rfl
  | false =>
    refine ev_bin e (rb := .val (.int (-1))) (ev_iteF (var_at ho) rfl) rfl rfl ?_
    rw [mulS (by decide)]
    show some (Rv.val (.int (gn ws s * -1))) = _
    rw [Int.mul_neg, Int.mul_one]
    rfl
end
theorem set_app1 {S : Store} {o o' : O} : (S ++ [o]).set S.length o' = S ++ [o'] := by
  have := set_app (S := S) (l := [o]) (k := 0) (o := o')
  exact this
theorem mvA_len {two : Bool} {T : Tb3} {st : Sg} : (mvA two T st).length ≤ 4 := by
  unfold mvA
  split
  · split <;> simp
  · exact mvs_len
/-- the standing ahead of all moves -/
def fst0 (ws : List Int) (fr : Bool) : Sg := ((0, (ws.length : Int)), ("none" : Str), fr)
def brgD (ws : List Int) (two : Bool) (T : Tb3) (fr : Bool) : D := .tup [.int (V ws two T (fst0 ws fr)), seqD (gpath ws two T ws.length (fst0 ws fr))]
theorem gpath_ok {ws : List Int} {two : Bool} {T : Tb3} (hT : okTb T) : ∀ (k : Nat) (st : Sg), okL st.2.1 → ∀ m ∈ gpath ws two T k st, okM m
  | 0, _, _, _, h => by cases h
  | k + 1, st, ho, m, h => by
    unfold gpath at h
    split at h
    · rename_i h0
      obtain ⟨m', e, hm, _⟩ := gmv_some (ws := ws) (two := two) hT ho h0
      rw [e] at h
      obtain ⟨a1, a2, a3, _⟩ := mvA_ok hT ho hm
      rcases List.mem_append.mp h with h | h
      · split at h
        · cases h
        · rw [List.mem_singleton] at h
          subst h
          exact ⟨a1, by omega⟩
      · exact gpath_ok hT k _ (aftS_last a1) m h
    · cases h
theorem gpath_len {ws : List Int} {two : Bool} {T : Tb3} : ∀ (k : Nat) (st : Sg), (gpath ws two T k st).length ≤ k
  | 0, _ => Nat.le_refl _
  | k + 1, st => by
    unfold gpath
    split
    · cases gmv ws two T st with
      | none => exact Nat.zero_le _
      | some m =>
        have := gpath_len (ws := ws) (two := two) (T := T) k (aftS st m)
        show ((if st.2.2 = true then [] else [m]) ++ gpath ws two T k (aftS st m)).length ≤ k + 1
        rw [List.length_append]
        split
        · show 0 + _ ≤ _; omega
        · show 1 + _ ≤ _; omega
    · exact Nat.zero_le _
theorem fl_seq {a : List Mv} (h : ∀ m ∈ a, okM m) (k : Nat) : Fl (k + 2) (seqD a) := .tup fun x hx => by
  obtain ⟨m, hm, rfl⟩ := List.mem_map.mp hx
  exact fl_mv (h m hm).1
theorem fl_brg {ws : List Int} {two : Bool} {T : Tb3} (hT : okTb T) (fr : Bool) : Fl 3 (brgD ws two T fr) := .tup fun x hx => by
  simp only [List.mem_cons, List.mem_nil_iff, or_false] at hx
  rcases hx with rfl | rfl
  · exact .int _ _
  · exact fl_seq (gpath_ok hT _ _ (.inr (.inl rfl))) 0
/-- gpath's fuel -/
theorem gpath_eq {ws : List Int} {two : Bool} {T : Tb3} (hT : okTb T) : ∀ (k l : Nat) (st : Sg), okL st.2.1 → (rest st).toNat ≤ k → (rest st).toNat ≤ l → gpath ws two T k st = gpath ws two T l st
  | 0, 0, _, _, _, _ => rfl
  | 0, l + 1, st, _, hk, _ => by
    unfold gpath
    rw [if_neg (by omega)]
  | k + 1, 0, st, _, _, hl => by
    unfold gpath
    rw [if_neg (by omega)]
  | k + 1, l + 1, st, ho, hk, hl => by
    unfold gpath
    by_cases h0 : 0 < rest st
    · rw [if_pos h0, if_pos h0]
      obtain ⟨m, e, hm, _⟩ := gmv_some (ws := ws) (two := two) hT ho h0
      rw [e]
      obtain ⟨a1, a2, _, a3⟩ := mvA_ok hT ho hm
      have ar := aftS_rest st m
      simp only
      rw [gpath_eq hT k l (aftS st m) (aftS_last a1) (by omega) (by omega)]
    · rw [if_neg h0, if_neg h0]
/-- a play as a value -/
def plD (p : Int × List Mv) : D := .tup [.int p.1, seqD p.2]
end R
namespace R
open PySem
section
variable {X : Tab} {C : Calls} {ρ : REnv} {S : Store}
theorem last_ite {o i : Nat} {m : Mv} {own : Bool} (h1 : ρ[o]? = some (.val (.bl own))) (h2 : ρ[i]? = some (.val (mvD m))) : evE X C (.ite (.var o) (.cst (.str "none")) (.idx (.var i) (.cst (.int 0)))) ρ S = .ok (.val (.str (if own = true then ("none" : Str) else m.1))) S := by
  cases own with
  | true => exact ev_iteT (var_at h1) ev_cst
  | false => exact ev_iteF (var_at h1) (ev_idx (x := mvD m) (y := .int 0) (d := .str m.1) (var_at h2) ev_cst rfl rfl rfl)
theorem rest_ev {i : Nat} {st : Sg} (h : ρ[i]? = some (.val (spD st.1))) : evE X C (.bin .sub (.idx (.var i) (.cst (.int 1))) (.idx (.var i) (.cst (.int 0)))) ρ S = .ok (.val (.int (rest st))) S :=
  ev_bin (ev_idx (x := spD st.1) (y := .int 1) (d := .int st.1.2) (var_at h) ev_cst rfl rfl rfl) (ev_idx (x := spD st.1) (y := .int 0) (d := .int st.1.1) (var_at h) ev_cst rfl rfl rfl) rfl rfl rfl
theorem len_ev {i : Nat} {ws : List Int} (h : ρ[i]? = some (.val (rowD ws))) : evE X C (.tup (.cons (.cst (.int 0)) (.cons (.len (.var i)) .nil))) ρ S = .ok (.val (spD (0, (ws.length : Int)))) S := by
  have := ev_lenT (X := X) (C := C) (S := S) (a := .var i) (ρ := ρ) (r := .val (rowD ws)) (xs := ws.map D.int) (var_at h) rfl
  rw [List.length_map] at this
  exact ev_tup (el_cons ev_cst rfl (el_cons this rfl el_nil)) (by show 2 ≤ 1000000; decide)
end
end R

set_option maxHeartbeats 1000000
/-! All plays: what is least. -/
namespace R
open PySem
def PG (ws : List Int) (st : Sg) (m : Mv) (p : Int × List Mv) : Int × List Mv := (p.1 + gnS ws st m, if st.2.2 = true then p.2 else m :: p.2)
theorem plays_succ {ws : List Int} {two : Bool} {T : Tb3} {k : Nat} {st : Sg} (h : rest st ≠ 0) : plays ws two T (k + 1) st = (mvA two T st).flatMap fun m => (plays ws two T k (aftS st m)).map (PG ws st m) := by
  rw [plays, if_neg h]
  rfl
theorem plays_zero {ws : List Int} {two : Bool} {T : Tb3} {k : Nat} {st : Sg} (h : rest st = 0) : plays ws two T k st = [(0, [])] := by
  cases k with
  | zero => rfl
  | succ k => rw [plays, if_pos h]
theorem plays_mv {ws : List Int} {two : Bool} {T : Tb3} : ∀ (k : Nat) (st : Sg), ∀ p ∈ plays ws two T k st, p.2.length ≤ k
  | 0, st, p, h => by
    unfold plays at h
    rw [List.mem_singleton] at h
    subst h
    exact Nat.le_refl _
  | k + 1, st, p, h => by
    by_cases h0 : rest st = 0
    · rw [plays_zero h0, List.mem_singleton] at h
      subst h
      exact Nat.zero_le _
    · rw [plays_succ h0] at h
      obtain ⟨m, _, h⟩ := List.mem_flatMap.mp h
      obtain ⟨q, hq, rfl⟩ := List.mem_map.mp h
      have := plays_mv k _ q hq
      show (if st.2.2 = true then q.2 else m :: q.2).length ≤ k + 1
      split
      · omega
      · rw [List.length_cons]; omega
theorem plays_okm {ws : List Int} {two : Bool} {T : Tb3} (hT : okTb T) : ∀ (k : Nat) (st : Sg), okL st.2.1 → ∀ p ∈ plays ws two T k st, ∀ m ∈ p.2, okM m
  | 0, st, _, p, h => by
    unfold plays at h
    rw [List.mem_singleton] at h
    subst h
    exact fun m hm => nomatch hm
  | k + 1, st, ho, p, h => by
    by_cases h0 : rest st = 0
    · rw [plays_zero h0, List.mem_singleton] at h
      subst h
      exact fun m hm => nomatch hm
    · rw [plays_succ h0] at h
      obtain ⟨m, hm, h⟩ := List.mem_flatMap.mp h
      obtain ⟨q, hq, rfl⟩ := List.mem_map.mp h
      obtain ⟨a1, a2, a3, a4⟩ := mvA_ok hT ho hm
      have ih := plays_okm hT k _ (aftS_last (st := st) a1) q hq
      intro x hx
      have hx : x ∈ if st.2.2 = true then q.2 else m :: q.2 := hx
      split at hx
      · exact ih x hx
      · rcases List.mem_cons.mp hx with rfl | hx
        · exact ⟨a1, by omega⟩
        · exact ih x hx
theorem plays_lead {ws : List Int} {two : Bool} {T : Tb3} (hT : okTb T) {k : Nat} {st : Sg} (ho : okL st.2.1) (h0 : 0 ≤ rest st) (hk : (rest st).toNat ≤ k) : minO ((plays ws two T k st).map (·.1)) = V ws two T st := by
  have hm := plays_mem (ws := ws) (two := two) hT k st ho h0 hk
  have h1 := minO_le (xs := (plays ws two T k st).map (·.1)) (List.mem_map.mpr ⟨_, hm, rfl⟩)
  have h2 := minO_mem (xs := (plays ws two T k st).map (·.1)) (fun e => by rw [List.map_eq_nil_iff] at e; rw [e] at hm; cases hm)
  obtain ⟨p, hp, e⟩ := List.mem_map.mp h2
  have h3 := plays_le (ws := ws) (two := two) hT k st ho h0 hk p hp
  simp only at h1 e
  omega
theorem plays_first {ws : List Int} {two : Bool} {T : Tb3} (hT : okTb T) {k : Nat} {st : Sg} (ho : okL st.2.1) (h0 : 0 ≤ rest st) (hk : (rest st).toNat ≤ k) :
    minL (((plays ws two T k st).filter fun p => decide (p.1 = V ws two T st)).map fun p => seqD p.2) = some (seqD (gpath ws two T k st)) := by
  have hm := plays_mem (ws := ws) (two := two) hT k st ho h0 hk
  have := minL_seq (xs := ((plays ws two T k st).filter fun p => decide (p.1 = V ws two T st)).map (·.2)) (g := gpath ws two T k st) (fun a ha => by
      obtain ⟨p, hp, rfl⟩ := List.mem_map.mp ha
      exact plays_okm hT k st ho p (List.mem_filter.mp hp).1) (List.mem_map.mpr ⟨_, List.mem_filter.mpr ⟨hm, decide_eq_true rfl⟩, rfl⟩) (fun a ha => by
      obtain ⟨p, hp, rfl⟩ := List.mem_map.mp ha
      obtain ⟨hp, e⟩ := List.mem_filter.mp hp
      have e : p.1 = V ws two T st := of_decide_eq_true e
      refine plays_least hT k st ho h0 hk p.2 ?_
      rw [← e]
      exact hp)
  rw [List.map_map] at this
  exact this
theorem flat_take {α β : Type} (f : α → List β) (l : List α) (i : Nat) : ((l.take i).flatMap f).length ≤ (l.flatMap f).length := by
  have : (l.flatMap f).length = ((l.take i).flatMap f).length + ((l.drop i).flatMap f).length := by
    rw [← List.length_append, ← List.flatMap_append, List.take_append_drop]
  omega
theorem plays_small {ws : List Int} {two : Bool} {T : Tb3} (hT : okTb T) {k : Nat} {st : Sg} (ho : okL st.2.1) (h0 : 0 ≤ rest st) (h9 : rest st ≤ 9) (hk : (rest st).toNat ≤ k) : (plays ws two T k st).length ≤ 1024 := by
  refine Nat.le_trans (plays_len hT k st ho h0 hk) ?_
  exact Nat.pow_le_pow_right (n := 2) (by decide) (show _ ≤ 10 by split <;> omega)
theorem drop_hd {α : Type} {l : List α} {p : Nat} {x : α} {r : List α} (h : l.drop p = x :: r) : l[p]? = some x ∧ l.drop (p + 1) = r := by
  constructor
  · rw [← List.head?_drop, h]
    rfl
  · rw [← List.drop_drop, h]
    rfl
theorem at_natT {xs : List D} {k : Nat} {d : D} (h : xs[k]? = some d) : idxop (.tup xs) (.int (k : Int)) = some d := at_nat h
end R

set_option maxHeartbeats 1000000
/-! Simple rows. -/
namespace R
open PySem
def oneR (n : Nat) (p : Nat → Bool) : List Int := (List.range n).map fun i => if p i then 1 else 0
def evens (n : Nat) : List Nat := ((List.range n).filter fun k => k % 2 == 0).reverse
/-- the simple rows of a fact (by its place), ascending -/
def simR (f n : Nat) : List (List Int) := match f with
  | 0 => (List.range n).reverse.map fun k => oneR n fun i => i == k
  | 1 => (evens n).map fun k => oneR n fun i => i == k
  | 2 => (List.range n).map fun k => oneR n fun i => decide (i ≤ k)
  | 3 => [oneR n fun _ => true]
  | 4 => (evens n).map fun k => oneR n fun i => i == k || i == k + 1
  | 5 => (List.range n).reverse.map fun k => oneR n fun i => decide (k ≤ i)
  | _ => ((List.range n).tail.reverse.map fun k => oneR n fun i => decide (k ≤ i)) ++ (List.range n).map fun k => oneR n fun i => decide (i ≤ k)
def facts : List Str := ["any", "even", "falling", "flat", "pairs", "rising", "valley"]
def FS (f : Nat) : Str := facts.getD f ""
theorem oneR_len (n : Nat) (p : Nat → Bool) : (oneR n p).length = n := by
  unfold oneR
  rw [List.length_map, List.length_range]
theorem simR_len {f n : Nat} {r : List Int} (h : r ∈ simR f n) : r.length = n := by
  unfold simR at h
  split at h
  · obtain ⟨_, _, rfl⟩ := List.mem_map.mp h; exact oneR_len ..
  · obtain ⟨_, _, rfl⟩ := List.mem_map.mp h; exact oneR_len ..
  · obtain ⟨_, _, rfl⟩ := List.mem_map.mp h; exact oneR_len ..
  · rw [List.mem_singleton] at h; subst h; exact oneR_len ..
  · obtain ⟨_, _, rfl⟩ := List.mem_map.mp h; exact oneR_len ..
  · obtain ⟨_, _, rfl⟩ := List.mem_map.mp h; exact oneR_len ..
  · rcases List.mem_append.mp h with h | h
    · obtain ⟨_, _, rfl⟩ := List.mem_map.mp h; exact oneR_len ..
    · obtain ⟨_, _, rfl⟩ := List.mem_map.mp h; exact oneR_len ..
def NS : List Nat := [1, 2, 3, 4, 5, 6, 7, 8, 16]
theorem sim_asc : ∀ f ∈ List.range 7, ∀ n ∈ NS, (simR f n).Pairwise (· < ·) := by decide +kernel
theorem sim_ne : ∀ f ∈ List.range 7, ∀ n ∈ NS, simR f n ≠ [] := by decide +kernel
theorem sim_few : ∀ f ∈ List.range 7, ∀ n ∈ NS, (simR f n).length ≤ 40 := by decide +kernel
end R
namespace R
open PySem
/-- a comprehension that keeps some, the store moving -/
theorem it_filtS {α : Type} {f : D → Store → O → Out O} {h : α → D} {g : α → D} {p : α → Bool} (J : Store → Prop) : ∀ (l : List α) (ys : List D) (S : Store), J S → ys.length + l.length < lim → (∀ a ∈ l, ∀ ys S, J S → ys.length < lim → ∃ S', J S' ∧ f (h a) S (.lst ys) = .ok (.lst (if p a = true then ys ++ [g a] else ys)) S') → ∃ S', J S' ∧ itLoop f (l.map h) S (.lst ys) = .ok (.lst (ys ++ (l.filter p).map g)) S'
  | [], ys, S, hJ, _, _ => ⟨S, hJ, by rw [List.map_nil, List.filter_nil, List.map_nil, List.append_nil]; rfl⟩
  | a :: l, ys, S, hJ, hl, hf => by
    rw [List.length_cons] at hl
    obtain ⟨S1, hJ1, e1⟩ := hf a List.mem_cons_self ys S hJ (by omega)
    rw [List.map_cons, itLoop, e1, Out.bind_ok, List.filter_cons]
    cases q : p a with
    | true =>
      rw [if_pos rfl, if_pos rfl]
      obtain ⟨S2, hJ2, e2⟩ := it_filtS J l (ys ++ [g a]) S1 hJ1 (by simp; omega) fun b hb => hf b (List.mem_cons_of_mem _ hb)
      refine ⟨S2, hJ2, ?_⟩
      rw [e2, List.map_cons, List.append_assoc]
      rfl
    | false =>
      rw [if_neg (by decide), if_neg (by decide)]
      exact it_filtS J l ys S1 hJ1 (by omega) fun b hb => hf b (List.mem_cons_of_mem _ hb)
/-! ### the least of (lead, row) -/
theorem pyAll_row (r : List Int) : py (rowD r) = some (.tuple (r.map PyData.int)) := by
  show (pyAll (r.map D.int)).map _ = _
  rw [pyAll_int]
  rfl
def prP (p : Int × List Int) : PyData := .tuple [.int p.1, .tuple (p.2.map PyData.int)]
def prD (p : Int × List Int) : D := .tup [.int p.1, rowD p.2]
theorem py_pr (p : Int × List Int) : py (prD p) = some (prP p) := by
  show (pyAll [.int p.1, rowD p.2]).map _ = _
  have : pyAll [.int p.1, rowD p.2] = some [.int p.1, .tuple (p.2.map PyData.int)] := by
    unfold pyAll
    unfold pyAll
    rw [pyAll_row]
    rfl
  rw [this]
  rfl
theorem pyAll_pr : ∀ ps : List (Int × List Int), pyAll (ps.map prD) = some (ps.map prP)
  | [] => rfl
  | p :: ps => by
    rw [List.map_cons, List.map_cons]
    unfold pyAll
    rw [py_pr, pyAll_pr ps]
theorem alike_pr (p q : Int × List Int) : PySem.W.alike (prP p) (prP q) = true := by
  unfold prP PySem.W.alike PySem.W.alikeAll PySem.W.alikeAll
  simp only [PySem.W.alike, PySem.W.alikeAll, PySem.W.alike_ints, Bool.and_self]
theorem depth_pr (p : Int × List Int) : (prP p).depth ≤ 2 := by
  unfold prP PyData.depth PyData.depthAll PyData.depthAll PyData.depthAll PyData.depth
  rw [PySem.W.depth_ints]
  decide
theorem depthAll_pr : ∀ ps : List (Int × List Int), PyData.depthAll (ps.map prP) ≤ 2
  | [] => Nat.zero_le _
  | p :: ps => by
    rw [List.map_cons]
    unfold PyData.depthAll
    have := depth_pr p
    have := depthAll_pr ps
    omega
theorem alikeB_pr (ps : List (Int × List Int)) : alikeB (ps.map prP) = true := by
  unfold alikeB
  simp only [Bool.and_eq_true, decide_eq_true_eq, List.all_eq_true, Bool.not_eq_true']
  refine ⟨⟨fun x hx y hy => ?_, fun x hx => ?_⟩, Nat.le_trans (depthAll_pr ps) (by decide)⟩
  · obtain ⟨a, _, rfl⟩ := List.mem_map.mp hx
    obtain ⟨b, _, rfl⟩ := List.mem_map.mp hy
    exact alike_pr a b
  · obtain ⟨a, _, rfl⟩ := List.mem_map.mp hx
    rfl
theorem eqv_ints : ∀ a b : List Int, PyData.eqvAll (a.map PyData.int) (b.map PyData.int) = decide (a = b)
  | [], [] => by simp [PyData.eqvAll]
  | [], _ :: _ => by simp [PyData.eqvAll]
  | _ :: _, [] => by simp [PyData.eqvAll]
  | x :: a, y :: b => by
    rw [List.map_cons, List.map_cons]
    unfold PyData.eqvAll
    rw [eqv_ints a b]
    by_cases h : x = y <;> by_cases h2 : a = b <;> simp [PyData.eqv, h, h2]
theorem ltB_pr (p q : Int × List Int) : ltB (prD p) (prD q) = if p.1 = q.1 then decide (p.2 < q.2) else decide (p.1 < q.1) := by
  unfold ltB
  rw [py_pr, py_pr]
  simp only
  unfold prP
  rw [PySem.W.dataLt_pair (by simp [PySem.W.alike]) (by simp [PySem.W.alike, PySem.W.alike_ints]), PySem.W.dataLt_int]
  have e1 : PyData.eqv (.int p.1) (.int q.1) = decide (p.1 = q.1) := by simp [PyData.eqv]; rfl
  have e2 : PyData.eqv (.tuple (p.2.map PyData.int)) (.tuple (q.2.map PyData.int)) = decide (p.2 = q.2) := by
    rw [← eqv_ints]
    simp [PyData.eqv]
  have e3 : PySem.W.dataLt (.tuple (p.2.map PyData.int)) (.tuple (q.2.map PyData.int)) = decide (p.2 < q.2) := by
    rw [PySem.W.dataLt_tuple]
    exact PySem.W.dataLt_ints p.2 q.2
  rw [e1, e2, e3]
  by_cases h : p.1 = q.1
  · simp only [h, decide_true, if_true]
    by_cases h2 : p.2 = q.2
    · simp [h2]
    · simp [h2]
  · simp [h]
theorem minL_pr {ps : List (Int × List Int)} {g : Int × List Int} (hg : g ∈ ps) (h : ∀ p ∈ ps, p = g ∨ g.1 < p.1 ∨ (g.1 = p.1 ∧ g.2 < p.2)) : minL (ps.map prD) = some (prD g) := by
  cases ps with
  | nil => cases hg
  | cons x xs =>
    have hp := pyAll_pr (x :: xs)
    have ha := alikeB_pr (x :: xs)
    show (match pyAll ((x :: xs).map prD) with
      | some ps => if alikeB ps then some ((xs.map prD).foldl (fun a y => if ltB y a then y else a) (prD x)) else none
      | none => none) = _
    rw [hp]
    simp only [ha, if_true]
    congr 1
    have key : ∀ p ∈ x :: xs, prD p = prD g ∨ (ltB (prD g) (prD p) = true ∧ ltB (prD p) (prD g) = false) := fun p hp => by
      rcases h p hp with rfl | h | ⟨h1, h2⟩
      · exact .inl rfl
      · refine .inr ⟨?_, ?_⟩
        · rw [ltB_pr, if_neg (by omega), decide_eq_true h]
        · rw [ltB_pr, if_neg (by omega), decide_eq_false (by omega)]
      · refine .inr ⟨?_, ?_⟩
        · rw [ltB_pr, if_pos h1, decide_eq_true h2]
        · rw [ltB_pr, if_pos h1.symm, decide_eq_false (List.not_lt.mpr (List.le_of_lt h2))]
    refine fold_min _ _ (key x List.mem_cons_self) (fun y hy => ?_) ?_
    · obtain ⟨a, ha, rfl⟩ := List.mem_map.mp hy
      exact key a (List.mem_cons_of_mem _ ha)
    · rcases List.mem_cons.mp hg with rfl | hg
      · exact .inl rfl
      · exact .inr (List.mem_map.mpr ⟨g, hg, rfl⟩)
end R
namespace R
open PySem
section
variable {X : Tab} {C : Calls} {ρ : REnv} {S S1 : Store} {e : E}
theorem ex_parM3 {i j k : Nat} {bi bj bk : Bool} {es : Es} {s1 s2 s3 : Sl} (h : evM X C es [bi, bj, bk] ρ S = .ok [s1, s2, s3] S1) (hf : ([i, j, k].all fun i => free1 ρ i && decide (i < ρ.length)) = true) (hn : [i, j, k].Nodup) : exT X C (.parM [(i, bi), (j, bj), (k, bk)] es) ρ S = .nx (((ρ.set i s1).set j s2).set k s3) S1 := by
  rw [exT]
  simp only [List.map_cons, List.map_nil]
  rw [h, Out.thn_ok, if_pos]
  · rfl
  · rw [hf, decide_eq_true hn]
    rfl
theorem ex_tupl3 {i j k : Nat} {x y z : D} (h : evE X C e ρ S = .ok (.val (.tup [x, y, z])) S1) (h2 : [i, j, k].all (free1 ρ) = true) : exT X C (.tupl [i, j, k] e) ρ S = .nx (((ρ.set i (.val x)).set j (.val y)).set k (.val z)) S1 := by
  rw [exT, h]
  simp only [Out.thn_ok, Rv.frz, h2]
  rfl
end
end R

set_option maxHeartbeats 0
namespace K06
open PySem L2 R
def top (i : Nat) : Stmt := PySem.Challenge.pw_endworths_k06_whole_worst_rows.main.body.getD i (.Pass ⟨0, 0, 0, 0⟩)
/-- is_integer -/
def tis_integer_0 : R.T := .seq (.ret (.and (.isi 0 (.var 0)) (.not (.isi 1 (.var 0))))) .skip
def tis_integer : R.T :=
 tis_integer_0
def fis_integer : Fd := { ctor := none, nslots := 1, nargs := 1, body := tis_integer }
def e0 : DefE := { kd := .glob "is_integer", name := "is_integer", qual := "is_integer", params := defArgs (top 13), body := defBody (top 13), scope := defScope (top 13), N := ["value"], ps := ["value"], fd := fis_integer }
/-- is_from -/
def tis_from_0 : R.T := .seq (.ret (.and (.call 0 (.cons (.var 0) .nil)) (.chain .le .le (.var 1) (.var 0) (.var 2)))) .skip
def tis_from : R.T :=
 tis_from_0
def fis_from : Fd := { ctor := none, nslots := 3, nargs := 3, body := tis_from }
def e1 : DefE := { kd := .glob "is_from", name := "is_from", qual := "is_from", params := defArgs (top 14), body := defBody (top 14), scope := defScope (top 14), N := ["value", "low", "high"], ps := ["value", "low", "high"], fd := fis_from }
/-- is_one_of -/
def tis_one_of_0 : R.T := .seq (.ret (.and (.isi 2 (.var 0)) (.isin false (.var 0) (.var 1)))) .skip
def tis_one_of : R.T :=
 tis_one_of_0
def fis_one_of : Fd := { ctor := none, nslots := 2, nargs := 2, body := tis_one_of }
def e2 : DefE := { kd := .glob "is_one_of", name := "is_one_of", qual := "is_one_of", params := defArgs (top 15), body := defBody (top 15), scope := defScope (top 15), N := ["value", "some"], ps := ["value", "some"], fd := fis_one_of }
/-- check_rule -/
def tcheck_rule_0 : R.T := .seq (.rais 1 .nil) .skip
def tcheck_rule_1 : R.T := .seq (.ite (.not (.call 2 (.cons (.var 0) (.cons (.glb 0) .nil))))
 tcheck_rule_0
 .skip) .skip
def tcheck_rule : R.T :=
 tcheck_rule_1
def fcheck_rule : Fd := { ctor := none, nslots := 1, nargs := 1, body := tcheck_rule }
def e3 : DefE := { kd := .glob "check_rule", name := "check_rule", qual := "check_rule", params := defArgs (top 16), body := defBody (top 16), scope := defScope (top 16), N := ["rule"], ps := ["rule"], fd := fcheck_rule }
/-- check_fact -/
def tcheck_fact_0 : R.T := .seq (.rais 2 .nil) .skip
def tcheck_fact_1 : R.T := .seq (.ite (.not (.call 2 (.cons (.var 0) (.cons (.glb 1) .nil))))
 tcheck_fact_0
 .skip) .skip
def tcheck_fact : R.T :=
 tcheck_fact_1
def fcheck_fact : Fd := { ctor := none, nslots := 1, nargs := 1, body := tcheck_fact }
def e4 : DefE := { kd := .glob "check_fact", name := "check_fact", qual := "check_fact", params := defArgs (top 17), body := defBody (top 17), scope := defScope (top 17), N := ["fact"], ps := ["fact"], fd := fcheck_fact }
/-- check_number -/
def tcheck_number_0 : R.T := .seq (.rais 3 .nil) .skip
def tcheck_number_1 : R.T := .seq (.ite (.not (.call 1 (.cons (.var 0) (.cons (.cst (.int 1)) (.cons (.var 1) .nil)))))
 tcheck_number_0
 .skip) .skip
def tcheck_number : R.T :=
 tcheck_number_1
def fcheck_number : Fd := { ctor := none, nslots := 2, nargs := 2, body := tcheck_number }
def e5 : DefE := { kd := .glob "check_number", name := "check_number", qual := "check_number", params := defArgs (top 18), body := defBody (top 18), scope := defScope (top 18), N := ["value", "high"], ps := ["value", "high"], fd := fcheck_number }
/-- Game.__init__ -/
def tGame_init_0 : R.T := .seq (.setFO 6 1 (.var 2)) .skip
def tGame_init_1 : R.T := .seq (.setFO 6 0 (.var 1)) tGame_init_0
def tGame_init_2 : R.T := .seq (.expr (.call 4 (.cons (.var 2) .nil))) tGame_init_1
def tGame_init_3 : R.T := .seq (.expr (.call 3 (.cons (.var 1) .nil))) tGame_init_2
def tGame_init : R.T :=
 tGame_init_3
def fGame_init : Fd := { ctor := some 6, nslots := 3, nargs := 2, body := tGame_init }
def e6 : DefE := { kd := .ctor 6, name := "__init__", qual := "Game.__init__", params := defArgs (inClass (top 19) 0), body := defBody (inClass (top 19) 0), scope := defScope (inClass (top 19) 0), N := ["self", "rule", "fact"], ps := ["self", "rule", "fact"], fd := fGame_init }
/-- Game.rule -/
def tGame_rule_0 : R.T := .seq (.ret (.fld 6 0 (.var 0))) .skip
def tGame_rule : R.T :=
 tGame_rule_0
def fGame_rule : Fd := { ctor := none, nslots := 1, nargs := 1, body := tGame_rule }
def e7 : DefE := { kd := .prop 6 "rule", name := "rule", qual := "Game.rule", params := defArgs (inClass (top 19) 1), body := defBody (inClass (top 19) 1), scope := defScope (inClass (top 19) 1), N := ["self"], ps := ["self"], fd := fGame_rule }
/-- Game.fact -/
def tGame_fact_0 : R.T := .seq (.ret (.fld 6 1 (.var 0))) .skip
def tGame_fact : R.T :=
 tGame_fact_0
def fGame_fact : Fd := { ctor := none, nslots := 1, nargs := 1, body := tGame_fact }
def e8 : DefE := { kd := .prop 6 "fact", name := "fact", qual := "Game.fact", params := defArgs (inClass (top 19) 2), body := defBody (inClass (top 19) 2), scope := defScope (inClass (top 19) 2), N := ["self"], ps := ["self"], fd := fGame_fact }
/-- Game.__eq__ -/
-- not covered, not reached: Game.__eq__: return isinstance(other, Game) and self.way == other.way and (self.known == other.known)
def tGame_eq_0 : R.T := .seq .dead .skip
def tGame_eq : R.T :=
 tGame_eq_0
def fGame_eq : Fd := { ctor := none, nslots := 2, nargs := 2, body := tGame_eq }
def e9 : DefE := { kd := .eq 6, name := "__eq__", qual := "Game.__eq__", params := defArgs (inClass (top 19) 3), body := defBody (inClass (top 19) 3), scope := defScope (inClass (top 19) 3), N := ["self", "other"], ps := ["self", "other"], fd := fGame_eq }
/-- stretch -/
def tstretch_0 : R.T := .seq (.ret (.blt 3 (.compN [3] [3] (.rng1 (.var 0)) (.cst (.bl true)) .nil (.toInt (.chain .le .lt (.var 1) (.var 3) (.var 2)))))) .skip
def tstretch : R.T :=
 tstretch_0
def fstretch : Fd := { ctor := none, nslots := 4, nargs := 3, body := tstretch }
def e10 : DefE := { kd := .glob "stretch", name := "stretch", qual := "stretch", params := defArgs (top 20), body := defBody (top 20), scope := defScope (top 20), N := ["n", "first", "behind", "place"], ps := ["n", "first", "behind"], fd := fstretch }
/-- simple_rows -/
def tsimple_rows_0 : R.T := .seq (.ret (.blt 6 (.compN [8] [8] (.rng3 (.cst (.int 0)) (.var 1) (.var 4)) (.cst (.bl true)) .nil (.call 10 (.cons (.var 1) (.cons (.var 8) (.cons (.bin .add (.var 8) (.cst (.int 1))) .nil))))))) .skip
def tsimple_rows_1 : R.T := .seq (.asg 4 (.ite (.cmp .eq (.var 0) (.cst (.str "even"))) (.cst (.int 2)) (.cst (.int 1)))) tsimple_rows_0
def tsimple_rows_2 : R.T := .seq (.ret (.lst (.cons (.call 10 (.cons (.var 1) (.cons (.cst (.int 0)) (.cons (.var 1) .nil)))) .nil))) .skip
def tsimple_rows_3 : R.T := .seq (.ret (.blt 6 (.compN [8] [8] (.rng3 (.cst (.int 0)) (.var 1) (.cst (.int 2))) (.cst (.bl true)) .nil (.call 10 (.cons (.var 1) (.cons (.var 8) (.cons (.bin .add (.var 8) (.cst (.int 2))) .nil))))))) .skip
def tsimple_rows_4 : R.T := .seq (.ret (.blt 7 (.compD [7] [7] (.seq (.bin .add (.var 2) (.var 3))) (.cst (.bl true)) .nil (.var 7) (.cst (.bl true))))) .skip
def tsimple_rows_5 : R.T := .seq (.asg 3 (.ite (.cmp .ne (.var 0) (.cst (.str "rising"))) (.compN [6] [6] (.rng2 (.cst (.int 1)) (.bin .add (.var 1) (.cst (.int 1)))) (.cst (.bl true)) .nil (.call 10 (.cons (.var 1) (.cons (.cst (.int 0)) (.cons (.var 6) .nil))))) (.lst .nil))) tsimple_rows_4
def tsimple_rows_6 : R.T := .seq (.asg 2 (.ite (.cmp .ne (.var 0) (.cst (.str "falling"))) (.compN [5] [5] (.rng1 (.var 1)) (.cst (.bl true)) .nil (.call 10 (.cons (.var 1) (.cons (.var 5) (.cons (.var 1) .nil))))) (.lst .nil))) tsimple_rows_5
def tsimple_rows_7 : R.T := .seq (.ite (.cmp .eq (.var 0) (.cst (.str "pairs")))
 tsimple_rows_3
 .skip) tsimple_rows_6
def tsimple_rows_8 : R.T := .seq (.ite (.cmp .eq (.var 0) (.cst (.str "flat")))
 tsimple_rows_2
 .skip) tsimple_rows_7
def tsimple_rows_9 : R.T := .seq (.ite (.isin false (.var 0) (.tup (.cons (.cst (.str "any")) (.cons (.cst (.str "even")) .nil))))
 tsimple_rows_1
 .skip) tsimple_rows_8
def tsimple_rows : R.T :=
 tsimple_rows_9
def fsimple_rows : Fd := { ctor := none, nslots := 9, nargs := 2, body := tsimple_rows }
def e11 : DefE := { kd := .glob "simple_rows", name := "simple_rows", qual := "simple_rows", params := defArgs (top 21), body := defBody (top 21), scope := defScope (top 21), N := ["fact", "n", "rising", "falling", "step", "first", "behind", "row", "place"], ps := ["fact", "n"], fd := fsimple_rows }
/-- all_keys -/
def tall_keys_0 : R.T := .seq (.ret (.compN [0, 1, 2] [0] (.rng1 (.cst (.int 2))) (.cst (.bl true)) (.cons [1, 2] [1] (.rng1 (.cst (.int 2))) (.cst (.bl true)) (.cons [2] [2] (.seqF (.glb 6)) (.cst (.bl true)) .nil)) (.tup (.cons (.var 0) (.cons (.var 1) (.cons (.var 2) .nil)))))) .skip
def tall_keys : R.T :=
 tall_keys_0
def fall_keys : Fd := { ctor := none, nslots := 3, nargs := 0, body := tall_keys }
def e12 : DefE := { kd := .glob "all_keys", name := "all_keys", qual := "all_keys", params := defArgs (top 26), body := defBody (top 26), scope := defScope (top 26), N := ["rest", "left", "last"], ps := [], fd := fall_keys }
/-- is_move -/
def tis_move_0 : R.T := .seq (.ret (.cst (.bl false))) .skip
def tis_move_1 : R.T := .seq (.ret (.and (.call 2 (.cons (.idx (.var 0) (.cst (.int 0))) (.cons (.glb 3) .nil))) (.call 1 (.cons (.idx (.var 0) (.cst (.int 1))) (.cons (.cst (.int 1)) (.cons (.glb 7) .nil)))))) .skip
def tis_move_2 : R.T := .seq (.ite (.or (.not (.isi 3 (.var 0))) (.cmp .ne (.len (.var 0)) (.cst (.int 2))))
 tis_move_0
 .skip) tis_move_1
def tis_move : R.T :=
 tis_move_2
def fis_move : Fd := { ctor := none, nslots := 1, nargs := 1, body := tis_move }
def e13 : DefE := { kd := .glob "is_move", name := "is_move", qual := "is_move", params := defArgs (top 27), body := defBody (top 27), scope := defScope (top 27), N := ["value"], ps := ["value"], fd := fis_move }
/-- is_key -/
def tis_key_0 : R.T := .seq (.ret (.cst (.bl false))) .skip
def tis_key_1 : R.T := .seq (.ret (.and (.call 1 (.cons (.idx (.var 0) (.cst (.int 0))) (.cons (.cst (.int 0)) (.cons (.cst (.int 1)) .nil)))) (.and (.call 1 (.cons (.idx (.var 0) (.cst (.int 1))) (.cons (.cst (.int 0)) (.cons (.cst (.int 1)) .nil)))) (.call 2 (.cons (.idx (.var 0) (.cst (.int 2))) (.cons (.glb 6) .nil)))))) .skip
def tis_key_2 : R.T := .seq (.ite (.or (.not (.isi 3 (.var 0))) (.cmp .ne (.len (.var 0)) (.cst (.int 3))))
 tis_key_0
 .skip) tis_key_1
def tis_key : R.T :=
 tis_key_2
def fis_key : Fd := { ctor := none, nslots := 1, nargs := 1, body := tis_key }
def e14 : DefE := { kd := .glob "is_key", name := "is_key", qual := "is_key", params := defArgs (top 28), body := defBody (top 28), scope := defScope (top 28), N := ["value"], ps := ["value"], fd := fis_key }
/-- Plan.__init__ -/
def tPlan_init_0 : R.T := .seq .dead .skip
def tPlan_init_1 : R.T := .seq .dead .skip
def tPlan_init_2 : R.T := .seq (.ite (.not (.call 13 (.cons (.idx (.var 1) (.var 3)) .nil)))
 tPlan_init_1
 .skip) .skip
def tPlan_init_3 : R.T := .seq (.setFO 7 0 (.compD [3] [3] (.seq (.var 2)) (.cst (.bl true)) .nil (.var 3) (.idx (.var 1) (.var 3)))) .skip
def tPlan_init_4 : R.T := .seq (.for_ [3] (.seqF (.var 2))
 tPlan_init_2) tPlan_init_3
def tPlan_init_5 : R.T := .seq (.ite (.or (.not (.isi 5 (.var 1))) (.or (.cmp .ne (.len (.var 1)) (.len (.var 2))) (.not (.blt 2 (.compN [3] [3] (.keys (.var 1)) (.cst (.bl true)) .nil (.call 14 (.cons (.var 3) .nil)))))))
 tPlan_init_0
 .skip) tPlan_init_4
def tPlan_init_6 : R.T := .seq (.asg 2 (.call 12 .nil)) tPlan_init_5
def tPlan_init : R.T :=
 tPlan_init_6
def fPlan_init : Fd := { ctor := some 7, nslots := 4, nargs := 1, body := tPlan_init }
def e15 : DefE := { kd := .ctor 7, name := "__init__", qual := "Plan.__init__", params := defArgs (inClass (top 29) 0), body := defBody (inClass (top 29) 0), scope := defScope (inClass (top 29) 0), N := ["self", "table", "keys", "key"], ps := ["self", "table"], fd := fPlan_init }
/-- Plan.table -/
-- not covered, not reached: Plan.table: return dict(self.told_by)
def tPlan_table_0 : R.T := .seq .dead .skip
def tPlan_table : R.T :=
 tPlan_table_0
def fPlan_table : Fd := { ctor := none, nslots := 1, nargs := 1, body := tPlan_table }
def e16 : DefE := { kd := .prop 7 "table", name := "table", qual := "Plan.table", params := defArgs (inClass (top 29) 1), body := defBody (inClass (top 29) 1), scope := defScope (inClass (top 29) 1), N := ["self"], ps := ["self"], fd := fPlan_table }
/-- Plan.__eq__ -/
-- not covered, not reached: Plan.__eq__: return isinstance(other, Plan) and self.told_by == other.told_by
def tPlan_eq_0 : R.T := .seq .dead .skip
def tPlan_eq : R.T :=
 tPlan_eq_0
def fPlan_eq : Fd := { ctor := none, nslots := 2, nargs := 2, body := tPlan_eq }
def e17 : DefE := { kd := .eq 7, name := "__eq__", qual := "Plan.__eq__", params := defArgs (inClass (top 29) 2), body := defBody (inClass (top 29) 2), scope := defScope (inClass (top 29) 2), N := ["self", "other"], ps := ["self", "other"], fd := fPlan_eq }
/-- planned -/
def tplanned_0 : R.T := .seq (.ret (.tup (.cons (.var 5) (.cons (.ite (.or (.cmp .eq (.var 1) (.cst (.str "one"))) (.cmp .eq (.var 2) (.cst (.int 1)))) (.cst (.int 1)) (.var 6)) .nil)))) .skip
def tplanned_1 : R.T := .seq (.tupl [5, 6] (.idx (.fld 7 0 (.var 0)) (.tup (.cons (.bin .mod (.var 2) (.cst (.int 2))) (.cons (.bin .mod (.var 3) (.cst (.int 2))) (.cons (.var 4) .nil)))))) tplanned_0
def tplanned : R.T :=
 tplanned_1
def fplanned : Fd := { ctor := none, nslots := 7, nargs := 5, body := tplanned }
def e18 : DefE := { kd := .glob "planned", name := "planned", qual := "planned", params := defArgs (top 30), body := defBody (top 30), scope := defScope (top 30), N := ["plan", "rule", "rest", "left", "last", "side", "many"], ps := ["plan", "rule", "rest", "left", "last"], fd := fplanned }
/-- moves_of -/
def tmoves_of_0 : R.T := .seq (.ret (.ite (.cmp .gt (.var 1) (.cst (.int 0))) (.compN [3, 4] [3] (.seq (.glb 3)) (.cst (.bl true)) (.cons [4] [4] (.seqF (.var 2)) (.cst (.bl true)) .nil) (.tup (.cons (.var 3) (.cons (.var 4) .nil)))) (.lst .nil))) .skip
def tmoves_of_1 : R.T := .seq (.asg 2 (.ite (.and (.cmp .eq (.var 0) (.cst (.str "two"))) (.cmp .gt (.var 1) (.cst (.int 1)))) (.lst (.cons (.cst (.int 1)) (.cons (.cst (.int 2)) .nil))) (.lst (.cons (.cst (.int 1)) .nil)))) tmoves_of_0
def tmoves_of : R.T :=
 tmoves_of_1
def fmoves_of : Fd := { ctor := none, nslots := 5, nargs := 2, body := tmoves_of }
def e19 : DefE := { kd := .glob "moves_of", name := "moves_of", qual := "moves_of", params := defArgs (top 31), body := defBody (top 31), scope := defScope (top 31), N := ["rule", "rest", "many", "side", "one"], ps := ["rule", "rest"], fd := fmoves_of }
/-- check_who -/
def tcheck_who_0 : R.T := .seq (.rais 5 .nil) .skip
def tcheck_who_1 : R.T := .seq (.ite (.not (.call 2 (.cons (.var 0) (.cons (.glb 8) .nil))))
 tcheck_who_0
 .skip) .skip
def tcheck_who : R.T :=
 tcheck_who_1
def fcheck_who : Fd := { ctor := none, nslots := 1, nargs := 1, body := tcheck_who }
def e20 : DefE := { kd := .glob "check_who", name := "check_who", qual := "check_who", params := defArgs (top 34), body := defBody (top 34), scope := defScope (top 34), N := ["who"], ps := ["who"], fd := fcheck_who }
/-- taken -/
def ttaken_0 : R.T := .seq (.ret (.tup (.cons (.tup (.cons (.bin .add (.var 2) (.var 5)) (.cons (.var 3) .nil))) (.cons (.tup (.cons (.var 2) (.cons (.bin .add (.var 2) (.var 5)) .nil))) .nil)))) .skip
def ttaken_1 : R.T := .seq (.ret (.tup (.cons (.tup (.cons (.var 2) (.cons (.bin .sub (.var 3) (.var 5)) .nil))) (.cons (.tup (.cons (.bin .sub (.var 3) (.var 5)) (.cons (.var 3) .nil))) .nil)))) .skip
def ttaken_2 : R.T := .seq (.ite (.cmp .eq (.var 4) (.glb 2))
 ttaken_0
 .skip) ttaken_1
def ttaken_3 : R.T := .seq (.tupl [4, 5] (.var 1)) ttaken_2
def ttaken_4 : R.T := .seq (.tupl [2, 3] (.var 0)) ttaken_3
def ttaken : R.T :=
 ttaken_4
def ftaken : Fd := { ctor := none, nslots := 6, nargs := 2, body := ttaken }
def e21 : DefE := { kd := .glob "taken", name := "taken", qual := "taken", params := defArgs (top 35), body := defBody (top 35), scope := defScope (top 35), N := ["span", "move", "first", "behind", "side", "many"], ps := ["span", "move"], fd := ftaken }
/-- worth_of -/
def tworth_of_0 : R.T := .seq (.ret (.blt 0 (.slc (.var 0) (.idx (.var 1) (.cst (.int 0))) (.idx (.var 1) (.cst (.int 1)))))) .skip
def tworth_of : R.T :=
 tworth_of_0
def fworth_of : Fd := { ctor := none, nslots := 2, nargs := 2, body := tworth_of }
def e22 : DefE := { kd := .glob "worth_of", name := "worth_of", qual := "worth_of", params := defArgs (top 36), body := defBody (top 36), scope := defScope (top 36), N := ["row", "span"], ps := ["row", "span"], fd := fworth_of }
/-- Bringing.__init__ -/
def tBringing_init_0 : R.T := .seq (.setFO 8 3 (.mk .dct0)) .skip
def tBringing_init_1 : R.T := .seq (.setFO 8 2 (.var 3)) tBringing_init_0
def tBringing_init_2 : R.T := .seq (.setFO 8 1 (.var 2)) tBringing_init_1
def tBringing_init_3 : R.T := .seq (.setFO 8 0 (.var 1)) tBringing_init_2
def tBringing_init : R.T :=
 tBringing_init_3
def fBringing_init : Fd := { ctor := some 8, nslots := 4, nargs := 3, body := tBringing_init }
def e23 : DefE := { kd := .ctor 8, name := "__init__", qual := "Bringing.__init__", params := defArgs (inClass (top 37) 0), body := defBody (inClass (top 37) 0), scope := defScope (inClass (top 37) 0), N := ["self", "plan", "rule", "row"], ps := ["self", "plan", "rule", "row"], fd := fBringing_init }
/-- Bringing.least -/
def tBringing_least_0 : R.T := .seq (.setI (.fld 8 3 (.var 0)) (.var 4) (.ite (.cmp .ne (.var 5) (.lst .nil)) (.blt 5 (.var 5)) (.cst (.int 0)))) .skip
def tBringing_least_1 : R.T := .seq (.asg 5 (.compN [6, 7, 8] [6, 7, 8] (.seq (.meth 8 25 (.var 0) (.cons (.var 1) (.cons (.var 2) (.cons (.var 3) .nil))))) (.cst (.bl true)) .nil (.bin .add (.var 7) (.meth 8 24 (.var 0) (.star (.var 8) .nil))))) tBringing_least_0
def tBringing_least_2 : R.T := .seq (.ret (.idx (.fld 8 3 (.var 0)) (.var 4))) .skip
def tBringing_least_3 : R.T := .seq (.ite (.isin true (.var 4) (.fld 8 3 (.var 0)))
 tBringing_least_1
 .skip) tBringing_least_2
def tBringing_least_4 : R.T := .seq (.asg 4 (.tup (.cons (.var 1) (.cons (.var 2) (.cons (.var 3) .nil))))) tBringing_least_3
def tBringing_least : R.T :=
 tBringing_least_4
def fBringing_least : Fd := { ctor := none, nslots := 9, nargs := 4, body := tBringing_least }
def e24 : DefE := { kd := .meth 8 "least", name := "least", qual := "Bringing.least", params := defArgs (inClass (top 37) 1), body := defBody (inClass (top 37) 1), scope := defScope (inClass (top 37) 1), N := ["self", "span", "last", "is_own", "mark", "some", "move", "lead", "later"], ps := ["self", "span", "last", "is_own"], fd := fBringing_least }
/-- Bringing.steps -/
def tBringing_steps_0 : R.T := .seq (.asg 5 (.lst (.cons (.call 18 (.cons (.fld 8 0 (.var 0)) (.cons (.fld 8 1 (.var 0)) (.cons (.var 4) (.cons (.idx (.var 1) (.cst (.int 0))) (.cons (.var 2) .nil)))))) .nil))) .skip
def tBringing_steps_1 : R.T := .seq (.appO 6 (.tup (.cons (.var 7) (.cons (.ite (.var 3) (.var 8) (.neg (.var 8))) (.cons (.tup (.cons (.var 9) (.cons (.ite (.var 3) (.glb 5) (.idx (.var 7) (.cst (.int 0)))) (.cons (.not (.var 3)) .nil)))) .nil))))) .skip
def tBringing_steps_2 : R.T := .seq (.asg 8 (.call 22 (.cons (.fld 8 2 (.var 0)) (.cons (.var 10) .nil)))) tBringing_steps_1
def tBringing_steps_3 : R.T := .seq (.tupl [9, 10] (.call 21 (.cons (.var 1) (.cons (.var 7) .nil)))) tBringing_steps_2
def tBringing_steps_4 : R.T := .seq (.retO 6) .skip
def tBringing_steps_5 : R.T := .seq (.for_ [7] (.seqF (.var 5))
 tBringing_steps_3) tBringing_steps_4
def tBringing_steps_6 : R.T := .seq (.asgO 6 (.lst .nil)) tBringing_steps_5
def tBringing_steps_7 : R.T := .seq (.ite (.and (.var 3) (.cmp .gt (.var 4) (.cst (.int 0))))
 tBringing_steps_0
 .skip) tBringing_steps_6
def tBringing_steps_8 : R.T := .seq (.asg 5 (.call 19 (.cons (.fld 8 1 (.var 0)) (.cons (.var 4) .nil)))) tBringing_steps_7
def tBringing_steps_9 : R.T := .seq (.asg 4 (.bin .sub (.idx (.var 1) (.cst (.int 1))) (.idx (.var 1) (.cst (.int 0))))) tBringing_steps_8
def tBringing_steps : R.T :=
 tBringing_steps_9
def fBringing_steps : Fd := { ctor := none, nslots := 11, nargs := 4, body := tBringing_steps }
def e25 : DefE := { kd := .meth 8 "steps", name := "steps", qual := "Bringing.steps", params := defArgs (inClass (top 37) 2), body := defBody (inClass (top 37) 2), scope := defScope (inClass (top 37) 2), N := ["self", "span", "last", "is_own", "rest", "moves", "found", "move", "lead", "later", "own"], ps := ["self", "span", "last", "is_own"], fd := fBringing_steps }
/-- Bringing.least_moves -/
def tBringing_least_moves_0 : R.T := .seq .brk .skip
def tBringing_least_moves_1 : R.T := .seq (.par [6, 4] (.cons (.var 9) (.cons (.bin .sub (.var 4) (.var 8)) .nil))) tBringing_least_moves_0
def tBringing_least_moves_2 : R.T := .seq (.extO 5 (.ite (.idx (.var 6) (.cst (.int 2))) (.lst .nil) (.lst (.cons (.var 7) .nil)))) tBringing_least_moves_1
def tBringing_least_moves_3 : R.T := .seq (.ite (.cmp .le (.bin .add (.var 8) (.meth 8 24 (.var 0) (.star (.var 9) .nil))) (.var 4))
 tBringing_least_moves_2
 .skip) .skip
def tBringing_least_moves_4 : R.T := .seq (.for_ [7, 8, 9] (.seqF (.meth 8 25 (.var 0) (.star (.var 6) .nil)))
 tBringing_least_moves_3) .skip
def tBringing_least_moves_5 : R.T := .seq (.ret (.blt 3 (.peek 5))) .skip
def tBringing_least_moves_6 : R.T := .seq (.whil 100 (.cmp .lt (.idx (.idx (.var 6) (.cst (.int 0))) (.cst (.int 0))) (.idx (.idx (.var 6) (.cst (.int 0))) (.cst (.int 1))))
 tBringing_least_moves_4) tBringing_least_moves_5
def tBringing_least_moves_7 : R.T := .seq (.parM [(5, true), (6, false)] (.cons (.lst .nil) (.cons (.tup (.cons (.var 1) (.cons (.var 2) (.cons (.var 3) .nil)))) .nil))) tBringing_least_moves_6
def tBringing_least_moves : R.T :=
 tBringing_least_moves_7
def fBringing_least_moves : Fd := { ctor := none, nslots := 10, nargs := 5, body := tBringing_least_moves }
def e26 : DefE := { kd := .meth 8 "least_moves", name := "least_moves", qual := "Bringing.least_moves", params := defArgs (inClass (top 37) 3), body := defBody (inClass (top 37) 3), scope := defScope (inClass (top 37) 3), N := ["self", "span", "last", "is_own", "most", "found", "here", "move", "lead", "later"], ps := ["self", "span", "last", "is_own", "most"], fd := fBringing_least_moves }
/-- first_standing -/
def tfirst_standing_0 : R.T := .seq (.ret (.tup (.cons (.tup (.cons (.cst (.int 0)) (.cons (.len (.var 1)) .nil))) (.cons (.glb 5) (.cons (.cmp .eq (.var 0) (.glb 4)) .nil))))) .skip
def tfirst_standing : R.T :=
 tfirst_standing_0
def ffirst_standing : Fd := { ctor := none, nslots := 2, nargs := 2, body := tfirst_standing }
def e27 : DefE := { kd := .glob "first_standing", name := "first_standing", qual := "first_standing", params := defArgs (top 38), body := defBody (top 38), scope := defScope (top 38), N := ["who", "row"], ps := ["who", "row"], fd := ffirst_standing }
/-- brought -/
def tbrought_0 : R.T := .seq (.ret (.tup (.cons (.var 4) (.cons (.meth 8 26 (.var 5) (.star (.var 6) (.cons (.var 4) .nil))) .nil)))) .skip
def tbrought_1 : R.T := .seq (.asg 4 (.meth 8 24 (.var 5) (.star (.var 6) .nil))) tbrought_0
def tbrought_2 : R.T := .seq (.par [5, 6] (.cons (.make 8 23 (.cons (.var 0) (.cons (.var 1) (.cons (.var 3) .nil)))) (.cons (.call 27 (.cons (.var 2) (.cons (.var 3) .nil))) .nil))) tbrought_1
def tbrought : R.T :=
 tbrought_2
def fbrought : Fd := { ctor := none, nslots := 7, nargs := 4, body := tbrought }
def e28 : DefE := { kd := .glob "brought", name := "brought", qual := "brought", params := defArgs (top 39), body := defBody (top 39), scope := defScope (top 39), N := ["plan", "rule", "who", "row", "lead", "bringing", "here"], ps := ["plan", "rule", "who", "row"], fd := fbrought }
/-- least_with -/
def tleast_with_0 : R.T := .seq (.ret (.blt 5 (.compN [4] [4] (.seq (.call 11 (.cons (.fld 6 1 (.var 0)) (.cons (.var 3) .nil)))) (.cst (.bl true)) .nil (.idx (.call 28 (.cons (.var 1) (.cons (.fld 6 0 (.var 0)) (.cons (.var 2) (.cons (.var 4) .nil))))) (.cst (.int 0)))))) .skip
def tleast_with : R.T :=
 tleast_with_0
def fleast_with : Fd := { ctor := none, nslots := 5, nargs := 4, body := tleast_with }
def e29 : DefE := { kd := .glob "least_with", name := "least_with", qual := "least_with", params := defArgs (top 42), body := defBody (top 42), scope := defScope (top 42), N := ["game", "plan", "who", "n", "row"], ps := ["game", "plan", "who", "n"], fd := fleast_with }
/-- worst -/
def tworst_0 : R.T := .seq (.ret (.tup (.cons (.var 4) (.cons (.var 5) (.cons (.idx (.call 28 (.cons (.var 1) (.cons (.fld 6 0 (.var 0)) (.cons (.var 2) (.cons (.var 5) .nil))))) (.cst (.int 1))) .nil))))) .skip
def tworst_1 : R.T := .seq (.asg 5 (.idx (.compN [6] [6] (.seq (.call 11 (.cons (.fld 6 1 (.var 0)) (.cons (.var 3) .nil)))) (.cmp .eq (.idx (.call 28 (.cons (.var 1) (.cons (.fld 6 0 (.var 0)) (.cons (.var 2) (.cons (.var 6) .nil))))) (.cst (.int 0))) (.var 4)) .nil (.var 6)) (.cst (.int 0)))) tworst_0
def tworst_2 : R.T := .seq (.asg 4 (.call 29 (.cons (.var 0) (.cons (.var 1) (.cons (.var 2) (.cons (.var 3) .nil)))))) tworst_1
def tworst_3 : R.T := .seq (.expr (.call 5 (.cons (.var 3) (.cons (.glb 9) .nil)))) tworst_2
def tworst_4 : R.T := .seq (.expr (.call 20 (.cons (.var 2) .nil))) tworst_3
def tworst : R.T :=
 tworst_4
def fworst : Fd := { ctor := none, nslots := 7, nargs := 4, body := tworst }
def e30 : DefE := { kd := .glob "worst", name := "worst", qual := "worst", params := defArgs (top 43), body := defBody (top 43), scope := defScope (top 43), N := ["game", "plan", "who", "n", "lead", "row", "one"], ps := ["game", "plan", "who", "n"], fd := fworst }
/-- _law_draws -/
def tLdraws_0 : R.T := .seq (.ret (.lst (.cons (.toList (.var 0)) (.cons (.cst (.int 0)) (.cons (.cst (.int 0)) (.cons (.cst (.int 7)) .nil)))))) .skip
def tLdraws : R.T :=
 tLdraws_0
def fLdraws : Fd := { ctor := none, nslots := 1, nargs := 1, body := tLdraws }
def e31 : DefE := { kd := .glob "_law_draws", name := "_law_draws", qual := "_law_draws", params := defArgs (top 45), body := defBody (top 45), scope := defScope (top 45), N := ["_law_script"], ps := ["_law_script"], fd := fLdraws }
/-- _law_pick -/
def tLpick_0 : R.T := .seq (.setI (.var 0) (.cst (.int 2)) (.var 3)) .skip
def tLpick_1 : R.T := .seq (.setI (.var 0) (.cst (.int 3)) (.bin .mod (.toInt (.bin .add (.bin .add (.bin .mul (.idx (.var 0) (.cst (.int 3))) (.cst (.int 48271))) (.bin .mul (.var 3) (.cst (.int 69621)))) (.cst (.int 11)))) (.cst (.int 2147483647)))) .skip
def tLpick_2 : R.T := .seq (.ite (.cmp .ge (.var 3) (.bin .pow (.cst (.int 10)) (.cst (.int 18))))
 tLpick_0
 tLpick_1) .skip
def tLpick_3 : R.T := .seq (.setI (.var 0) (.cst (.int 1)) (.bin .add (.idx (.var 0) (.cst (.int 1))) (.cst (.int 1)))) tLpick_2
def tLpick_4 : R.T := .seq (.asg 3 (.idx (.idx (.var 0) (.cst (.int 0))) (.idx (.var 0) (.cst (.int 1))))) tLpick_3
def tLpick_5 : R.T := .seq (.setI (.var 0) (.cst (.int 3)) (.bin .mod (.toInt (.bin .add (.bin .mul (.idx (.var 0) (.cst (.int 3))) (.cst (.int 48271))) (.cst (.int 7)))) (.cst (.int 2147483647)))) .skip
def tLpick_6 : R.T := .seq (.ite (.cmp .lt (.idx (.var 0) (.cst (.int 1))) (.len (.idx (.var 0) (.cst (.int 0)))))
 tLpick_4
 tLpick_5) .skip
def tLpick_7 : R.T := .seq (.ret (.var 2)) .skip
def tLpick_8 : R.T := .seq (.setI (.var 0) (.cst (.int 2)) (.bin .fdiv (.idx (.var 0) (.cst (.int 2))) (.var 1))) tLpick_7
def tLpick_9 : R.T := .seq (.asg 2 (.bin .mod (.toInt (.idx (.var 0) (.cst (.int 2)))) (.var 1))) tLpick_8
def tLpick_10 : R.T := .seq (.ret (.bin .mod (.bin .mod (.toInt (.bin .mul (.idx (.var 0) (.cst (.int 3))) (.cst (.int 16807)))) (.cst (.int 2147483629))) (.var 1))) .skip
def tLpick_11 : R.T := .seq (.ite (.cmp .gt (.idx (.var 0) (.cst (.int 2))) (.cst (.int 0)))
 tLpick_9
 .skip) tLpick_10
def tLpick_12 : R.T := .seq (.ite (.cmp .eq (.idx (.var 0) (.cst (.int 2))) (.cst (.int 0)))
 tLpick_6
 .skip) tLpick_11
def tLpick : R.T :=
 tLpick_12
def fLpick : Fd := { ctor := none, nslots := 4, nargs := 2, body := tLpick }
def e32 : DefE := { kd := .glob "_law_pick", name := "_law_pick", qual := "_law_pick", params := defArgs (top 46), body := defBody (top 46), scope := defScope (top 46), N := ["_law_row", "_law_many", "_law_found", "_law_cell"], ps := ["_law_row", "_law_many"], fd := fLpick }
/-- _law_keys -/
def tLkeys_0 : R.T := .seq (.asg 0 (.bin .add (.var 0) (.compN [3] [3] (.seq (.lst (.cons (.cst (.str "left")) (.cons (.cst (.str "none")) (.cons (.cst (.str "right")) .nil))))) (.cst (.bl true)) .nil (.tup (.cons (.var 1) (.cons (.var 2) (.cons (.var 3) .nil))))))) .skip
def tLkeys_1 : R.T := .seq (.for_ [2] (.rng1 (.cst (.int 2)))
 tLkeys_0) .skip
def tLkeys_2 : R.T := .seq (.ret (.var 0)) .skip
def tLkeys_3 : R.T := .seq (.for_ [1] (.rng1 (.cst (.int 2)))
 tLkeys_1) tLkeys_2
def tLkeys_4 : R.T := .seq (.asg 0 (.lst .nil)) tLkeys_3
def tLkeys : R.T :=
 tLkeys_4
def fLkeys : Fd := { ctor := none, nslots := 4, nargs := 0, body := tLkeys }
def e33 : DefE := { kd := .glob "_law_keys", name := "_law_keys", qual := "_law_keys", params := defArgs (top 47), body := defBody (top 47), scope := defScope (top 47), N := ["_law_found", "_law_rest", "_law_left", "_law_last"], ps := [], fd := fLkeys }
/-- _law_table -/
def tLtable_0 : R.T := .seq (.asg 8 (.idx (.var 7) (.bin .add (.bin .mul (.cst (.int 2)) (.idx (.var 3) (.cst (.int 0)))) (.idx (.var 3) (.cst (.int 1)))))) .skip
def tLtable_1 : R.T := .seq (.asg 8 (.ite (.cmp .eq (.idx (.var 3) (.cst (.int 2))) (.cst (.str "left"))) (.cst (.str "right")) (.cst (.str "left")))) .skip
def tLtable_2 : R.T := .seq (.asg 8 (.ite (.cmp .eq (.idx (.var 3) (.cst (.int 2))) (.cst (.str "right"))) (.cst (.str "right")) (.cst (.str "left")))) .skip
def tLtable_3 : R.T := .seq (.asg 8 (.idx (.var 7) (.cst (.int 0)))) .skip
def tLtable_4 : R.T := .seq (.setIO 6 (.var 3) (.tup (.cons (.var 8) (.cons (.bin .add (.cst (.int 1)) (.call 32 (.cons (.var 0) (.cons (.var 2) .nil)))) .nil)))) .skip
def tLtable_5 : R.T := .seq (.ite (.cmp .eq (.var 4) (.cst (.int 4)))
 tLtable_3
 .skip) tLtable_4
def tLtable_6 : R.T := .seq (.ite (.cmp .eq (.var 4) (.cst (.int 3)))
 tLtable_2
 .skip) tLtable_5
def tLtable_7 : R.T := .seq (.ite (.cmp .eq (.var 4) (.cst (.int 2)))
 tLtable_1
 .skip) tLtable_6
def tLtable_8 : R.T := .seq (.ite (.cmp .eq (.var 4) (.cst (.int 1)))
 tLtable_0
 .skip) tLtable_7
def tLtable_9 : R.T := .seq (.asg 8 (.idx (.var 5) (.call 32 (.cons (.var 0) (.cons (.cst (.int 2)) .nil))))) tLtable_8
def tLtable_10 : R.T := .seq (.retO 6) .skip
def tLtable_11 : R.T := .seq (.for_ [3] (.seqF (.call 33 .nil))
 tLtable_9) tLtable_10
def tLtable_12 : R.T := .seq (.parM [(6, true), (7, false)] (.cons .dct0 (.cons (.compN [9] [9] (.rng1 (.cst (.int 4))) (.cst (.bl true)) .nil (.idx (.var 5) (.call 32 (.cons (.var 0) (.cons (.cst (.int 2)) .nil))))) .nil))) tLtable_11
def tLtable_13 : R.T := .seq (.asg 2 (.ite (.or (.cmp .eq (.var 1) (.cst (.str "two"))) (.cmp .eq (.call 32 (.cons (.var 0) (.cons (.cst (.int 4)) .nil))) (.cst (.int 0)))) (.cst (.int 2)) (.cst (.int 1)))) tLtable_12
def tLtable_14 : R.T := .seq (.par [4, 5] (.cons (.call 32 (.cons (.var 0) (.cons (.cst (.int 6)) .nil))) (.cons (.lst (.cons (.cst (.str "left")) (.cons (.cst (.str "right")) .nil))) .nil))) tLtable_13
def tLtable : R.T :=
 tLtable_14
def fLtable : Fd := { ctor := none, nslots := 10, nargs := 2, body := tLtable }
def e34 : DefE := { kd := .glob "_law_table", name := "_law_table", qual := "_law_table", params := defArgs (top 48), body := defBody (top 48), scope := defScope (top 48), N := ["_law_row", "_law_rule", "_law_most", "_law_key", "_law_turn_of", "_law_sides", "_law_table_here", "_law_four", "_law_side", "_law_k"], ps := ["_law_row", "_law_rule"], fd := fLtable }
/-- _law_facts -/
def tLfacts_0 : R.T := .seq (.ret (.lst (.cons (.cst (.str "any")) (.cons (.cst (.str "even")) (.cons (.cst (.str "falling")) (.cons (.cst (.str "flat")) (.cons (.cst (.str "pairs")) (.cons (.cst (.str "rising")) (.cons (.cst (.str "valley")) .nil))))))))) .skip
def tLfacts : R.T :=
 tLfacts_0
def fLfacts : Fd := { ctor := none, nslots := 0, nargs := 0, body := tLfacts }
def e35 : DefE := { kd := .glob "_law_facts", name := "_law_facts", qual := "_law_facts", params := defArgs (top 49), body := defBody (top 49), scope := defScope (top 49), N := [], ps := [], fd := fLfacts }
/-- _law_simple -/
def tLsimple_0 : R.T := .seq (.appO 2 (.blt 3 (.peek 5))) .skip
def tLsimple_1 : R.T := .seq (.appO 2 (.blt 3 (.var 6))) .skip
def tLsimple_2 : R.T := .seq (.appO 2 (.blt 3 (.var 4))) .skip
def tLsimple_3 : R.T := .seq (.appO 2 (.blt 3 (.peek 5))) .skip
def tLsimple_4 : R.T := .seq (.setIO 5 (.blt2 1 (.bin .add (.var 3) (.cst (.int 1))) (.bin .sub (.var 1) (.cst (.int 1)))) (.cst (.int 1))) tLsimple_3
def tLsimple_5 : R.T := .seq (.ite (.and (.cmp .eq (.var 0) (.cst (.str "pairs"))) (.cmp .eq (.bin .mod (.var 3) (.cst (.int 2))) (.cst (.int 0))))
 tLsimple_4
 .skip) .skip
def tLsimple_6 : R.T := .seq (.ite (.and (.isin false (.var 0) (.lst (.cons (.cst (.str "falling")) (.cons (.cst (.str "valley")) .nil)))) (.isin true (.blt 3 (.var 4)) (.peek 2)))
 tLsimple_2
 .skip) tLsimple_5
def tLsimple_7 : R.T := .seq (.ite (.isin false (.var 0) (.lst (.cons (.cst (.str "rising")) (.cons (.cst (.str "valley")) .nil))))
 tLsimple_1
 .skip) tLsimple_6
def tLsimple_8 : R.T := .seq (.ite (.or (.cmp .eq (.var 0) (.cst (.str "any"))) (.and (.cmp .eq (.var 0) (.cst (.str "even"))) (.cmp .eq (.bin .mod (.var 3) (.cst (.int 2))) (.cst (.int 0)))))
 tLsimple_0
 .skip) tLsimple_7
def tLsimple_9 : R.T := .seq (.asg 4 (.compN [7] [7] (.rng1 (.var 1)) (.cst (.bl true)) .nil (.toInt (.cmp .le (.var 7) (.var 3))))) tLsimple_8
def tLsimple_10 : R.T := .seq (.setIO 5 (.var 3) (.cst (.int 1))) tLsimple_9
def tLsimple_11 : R.T := .seq (.parM [(5, true), (6, false)] (.cons (.bin .mul (.lst (.cons (.cst (.int 0)) .nil)) (.var 1)) (.cons (.compN [7] [7] (.rng1 (.var 1)) (.cst (.bl true)) .nil (.toInt (.cmp .ge (.var 7) (.var 3)))) .nil))) tLsimple_10
def tLsimple_12 : R.T := .seq (.appO 2 (.bin .mul (.tup (.cons (.cst (.int 1)) .nil)) (.var 1))) .skip
def tLsimple_13 : R.T := .seq (.ret (.blt 6 (.peek 2))) .skip
def tLsimple_14 : R.T := .seq (.ite (.cmp .eq (.var 0) (.cst (.str "flat")))
 tLsimple_12
 .skip) tLsimple_13
def tLsimple_15 : R.T := .seq (.for_ [3] (.rng1 (.var 1))
 tLsimple_11) tLsimple_14
def tLsimple_16 : R.T := .seq (.asgO 2 (.lst .nil)) tLsimple_15
def tLsimple : R.T :=
 tLsimple_16
def fLsimple : Fd := { ctor := none, nslots := 8, nargs := 2, body := tLsimple }
def e36 : DefE := { kd := .glob "_law_simple", name := "_law_simple", qual := "_law_simple", params := defArgs (top 50), body := defBody (top 50), scope := defScope (top 50), N := ["_law_fact", "_law_n", "_law_found", "_law_k", "_law_down", "_law_one", "_law_up", "_law_j"], ps := ["_law_fact", "_law_n"], fd := fLsimple }
/-- _law_moves -/
def tLmoves_0 : R.T := .seq (.appO 2 (.tup (.cons (.var 3) (.cons (.cst (.int 1)) .nil)))) .skip
def tLmoves_1 : R.T := .seq (.appO 2 (.tup (.cons (.var 3) (.cons (.cst (.int 2)) .nil)))) .skip
def tLmoves_2 : R.T := .seq (.ite (.and (.cmp .gt (.var 1) (.cst (.int 1))) (.cmp .eq (.var 0) (.cst (.str "two"))))
 tLmoves_1
 .skip) .skip
def tLmoves_3 : R.T := .seq (.ite (.cmp .gt (.var 1) (.cst (.int 0)))
 tLmoves_0
 .skip) tLmoves_2
def tLmoves_4 : R.T := .seq (.retO 2) .skip
def tLmoves_5 : R.T := .seq (.for_ [3] (.seqF (.lst (.cons (.cst (.str "left")) (.cons (.cst (.str "right")) .nil))))
 tLmoves_3) tLmoves_4
def tLmoves_6 : R.T := .seq (.asgO 2 (.lst .nil)) tLmoves_5
def tLmoves : R.T :=
 tLmoves_6
def fLmoves : Fd := { ctor := none, nslots := 4, nargs := 2, body := tLmoves }
def e37 : DefE := { kd := .glob "_law_moves", name := "_law_moves", qual := "_law_moves", params := defArgs (top 51), body := defBody (top 51), scope := defScope (top 51), N := ["_law_rule", "_law_rest", "_law_found", "_law_side"], ps := ["_law_rule", "_law_rest"], fd := fLmoves }
/-- _law_planned -/
def tLplanned_0 : R.T := .seq (.ret (.tup (.cons (.var 5) (.cons (.ite (.or (.cmp .eq (.var 1) (.cst (.str "one"))) (.cmp .eq (.var 2) (.cst (.int 1)))) (.cst (.int 1)) (.var 6)) .nil)))) .skip
def tLplanned_1 : R.T := .seq (.tupl [5, 6] (.idx (.var 0) (.tup (.cons (.bin .mod (.var 2) (.cst (.int 2))) (.cons (.bin .mod (.var 3) (.cst (.int 2))) (.cons (.var 4) .nil)))))) tLplanned_0
def tLplanned : R.T :=
 tLplanned_1
def fLplanned : Fd := { ctor := none, nslots := 7, nargs := 5, body := tLplanned }
def e38 : DefE := { kd := .glob "_law_planned", name := "_law_planned", qual := "_law_planned", params := defArgs (top 52), body := defBody (top 52), scope := defScope (top 52), N := ["_law_table_here", "_law_rule", "_law_rest", "_law_left", "_law_last", "_law_side", "_law_many"], ps := ["_law_table_here", "_law_rule", "_law_rest", "_law_left", "_law_last"], fd := fLplanned }
/-- _law_behind -/
def tLbehind_0 : R.T := .seq (.ret (.lst (.cons (.tup (.cons (.bin .add (.var 2) (.idx (.var 1) (.cst (.int 1)))) (.cons (.var 3) .nil))) (.cons (.tup (.cons (.var 2) (.cons (.bin .add (.var 2) (.idx (.var 1) (.cst (.int 1)))) .nil))) .nil)))) .skip
def tLbehind_1 : R.T := .seq (.ret (.lst (.cons (.tup (.cons (.var 2) (.cons (.bin .sub (.var 3) (.idx (.var 1) (.cst (.int 1)))) .nil))) (.cons (.tup (.cons (.bin .sub (.var 3) (.idx (.var 1) (.cst (.int 1)))) (.cons (.var 3) .nil))) .nil)))) .skip
def tLbehind_2 : R.T := .seq (.ite (.cmp .eq (.idx (.var 1) (.cst (.int 0))) (.cst (.str "left")))
 tLbehind_0
 .skip) tLbehind_1
def tLbehind_3 : R.T := .seq (.tupl [2, 3] (.var 0)) tLbehind_2
def tLbehind : R.T :=
 tLbehind_3
def fLbehind : Fd := { ctor := none, nslots := 4, nargs := 2, body := tLbehind }
def e39 : DefE := { kd := .glob "_law_behind", name := "_law_behind", qual := "_law_behind", params := defArgs (top 53), body := defBody (top 53), scope := defScope (top 53), N := ["_law_span", "_law_move", "_law_first", "_law_end"], ps := ["_law_span", "_law_move"], fd := fLbehind }
/-- _law_least -/
def tLleast_0 : R.T := .seq (.asg 8 (.lst (.cons (.call 38 (.cons (.var 0) (.cons (.var 1) (.cons (.var 10) (.cons (.idx (.var 3) (.cst (.int 0))) (.cons (.var 4) .nil)))))) .nil))) .skip
def tLleast_1 : R.T := .seq (.appO 11 (.bin .add (.var 12) (.idx (.var 13) (.cst (.int 0))))) .skip
def tLleast_2 : R.T := .seq (.asg 13 (.call 40 (.cons (.var 0) (.cons (.var 1) (.cons (.var 2) (.cons (.var 14) (.cons (.ite (.var 5) (.cst (.str "none")) (.idx (.var 9) (.cst (.int 0)))) (.cons (.not (.var 5)) (.cons (.var 6) .nil))))))))) tLleast_1
def tLleast_3 : R.T := .seq (.asg 12 (.bin .mul (.blt 0 (.toList (.slc (.var 2) (.idx (.var 15) (.cst (.int 0))) (.idx (.var 15) (.cst (.int 1)))))) (.ite (.var 5) (.cst (.int 1)) (.bin .sub (.cst (.int 0)) (.cst (.int 1)))))) tLleast_2
def tLleast_4 : R.T := .seq (.tupl [14, 15] (.call 39 (.cons (.var 3) (.cons (.var 9) .nil)))) tLleast_3
def tLleast_5 : R.T := .seq (.setI (.var 6) (.var 7) (.lst (.cons (.blt 5 (.bin .add (.peek 11) (.ite (.cmp .eq (.peek 11) (.lst .nil)) (.lst (.cons (.cst (.int 0)) .nil)) (.lst .nil)))) .nil))) .skip
def tLleast_6 : R.T := .seq (.for_ [9] (.seqF (.var 8))
 tLleast_4) tLleast_5
def tLleast_7 : R.T := .seq (.ite (.and (.var 5) (.cmp .gt (.var 10) (.cst (.int 0))))
 tLleast_0
 .skip) tLleast_6
def tLleast_8 : R.T := .seq (.asg 8 (.call 37 (.cons (.var 1) (.cons (.var 10) .nil)))) tLleast_7
def tLleast_9 : R.T := .seq (.parM [(10, false), (11, true)] (.cons (.bin .sub (.idx (.var 3) (.cst (.int 1))) (.idx (.var 3) (.cst (.int 0)))) (.cons (.lst .nil) .nil))) tLleast_8
def tLleast_10 : R.T := .seq (.ret (.idx (.var 6) (.var 7))) .skip
def tLleast_11 : R.T := .seq (.ite (.isin true (.var 7) (.var 6))
 tLleast_9
 .skip) tLleast_10
def tLleast_12 : R.T := .seq (.asg 7 (.tup (.cons (.var 3) (.cons (.var 4) (.cons (.var 5) .nil))))) tLleast_11
def tLleast : R.T :=
 tLleast_12
def fLleast : Fd := { ctor := none, nslots := 16, nargs := 7, body := tLleast }
def e40 : DefE := { kd := .glob "_law_least", name := "_law_least", qual := "_law_least", params := defArgs (top 54), body := defBody (top 54), scope := defScope (top 54), N := ["_law_table_here", "_law_rule", "_law_worths", "_law_span", "_law_last", "_law_own", "_law_known", "_law_mark", "_law_moves_here", "_law_move", "_law_rest", "_law_found", "_law_gain", "_law_least_here", "_law_later", "_law_some"], ps := ["_law_table_here", "_law_rule", "_law_worths", "_law_span", "_law_last", "_law_own", "_law_known"], fd := fLleast }
/-- _law_brought -/
def tLbrought_0 : R.T := .seq (.ret (.idx (.call 40 (.cons (.var 0) (.cons (.var 1) (.cons (.var 3) (.cons (.tup (.cons (.cst (.int 0)) (.cons (.len (.var 3)) .nil))) (.cons (.cst (.str "none")) (.cons (.cmp .eq (.var 2) (.cst (.str "first"))) (.cons (.mk .dct0) .nil)))))))) (.cst (.int 0)))) .skip
def tLbrought : R.T :=
 tLbrought_0
def fLbrought : Fd := { ctor := none, nslots := 4, nargs := 4, body := tLbrought }
def e41 : DefE := { kd := .glob "_law_brought", name := "_law_brought", qual := "_law_brought", params := defArgs (top 55), body := defBody (top 55), scope := defScope (top 55), N := ["_law_table_here", "_law_rule", "_law_who", "_law_worths"], ps := ["_law_table_here", "_law_rule", "_law_who", "_law_worths"], fd := fLbrought }
/-- _law_plays -/
def tLplays_0 : R.T := .seq (.ret (.lst (.cons (.tup (.cons (.cst (.int 0)) (.cons (.tup .nil) .nil))) .nil))) .skip
def tLplays_1 : R.T := .seq (.appO 9 (.tup (.cons (.bin .add (.var 13) (.var 10)) (.cons (.ite (.var 5) (.var 14) (.bin .add (.tup (.cons (.var 7) .nil)) (.var 14))) .nil)))) .skip
def tLplays_2 : R.T := .seq (.for_ [13, 14] (.seqF (.call 42 (.cons (.var 0) (.cons (.var 1) (.cons (.var 2) (.cons (.var 11) (.cons (.ite (.var 5) (.cst (.str "none")) (.idx (.var 7) (.cst (.int 0)))) (.cons (.not (.var 5)) .nil))))))))
 tLplays_1) .skip
def tLplays_3 : R.T := .seq (.asg 10 (.bin .mul (.blt 0 (.toList (.slc (.var 2) (.idx (.var 12) (.cst (.int 0))) (.idx (.var 12) (.cst (.int 1)))))) (.ite (.var 5) (.cst (.int 1)) (.bin .sub (.cst (.int 0)) (.cst (.int 1)))))) tLplays_2
def tLplays_4 : R.T := .seq (.tupl [11, 12] (.call 39 (.cons (.var 3) (.cons (.var 7) .nil)))) tLplays_3
def tLplays_5 : R.T := .seq (.retO 9) .skip
def tLplays_6 : R.T := .seq (.for_ [7] (.seqF (.var 6))
 tLplays_4) tLplays_5
def tLplays_7 : R.T := .seq (.asg 6 (.ite (.var 5) (.lst (.cons (.call 38 (.cons (.var 0) (.cons (.var 1) (.cons (.var 8) (.cons (.idx (.var 3) (.cst (.int 0))) (.cons (.var 4) .nil)))))) .nil)) (.call 37 (.cons (.var 1) (.cons (.var 8) .nil))))) tLplays_6
def tLplays_8 : R.T := .seq (.ite (.cmp .eq (.var 8) (.cst (.int 0)))
 tLplays_0
 .skip) tLplays_7
def tLplays_9 : R.T := .seq (.parM [(8, false), (9, true)] (.cons (.bin .sub (.idx (.var 3) (.cst (.int 1))) (.idx (.var 3) (.cst (.int 0)))) (.cons (.lst .nil) .nil))) tLplays_8
def tLplays : R.T :=
 tLplays_9
def fLplays : Fd := { ctor := none, nslots := 15, nargs := 6, body := tLplays }
def e42 : DefE := { kd := .glob "_law_plays", name := "_law_plays", qual := "_law_plays", params := defArgs (top 56), body := defBody (top 56), scope := defScope (top 56), N := ["_law_table_here", "_law_rule", "_law_worths", "_law_span", "_law_last", "_law_own", "_law_moves_here", "_law_move", "_law_rest", "_law_found", "_law_gain", "_law_later", "_law_some", "_law_lead", "_law_others"], ps := ["_law_table_here", "_law_rule", "_law_worths", "_law_span", "_law_last", "_law_own"], fd := fLplays }
/-- _law_told -/
def tLtold_0 : R.T := .seq (.asg 4 (.ite (.excIs 5 0) (.cst (.str "number")) (.cst (.str "another")))) .skip
def tLtold_1 : R.T := .seq (.asg 4 (.ite (.excIs 5 0) (.cst (.str "who")) (.cst (.str "another")))) .skip
def tLtold_2 : R.T := .seq (.asg 4 (.call 30 (.cons (.var 0) (.cons (.var 1) (.cons (.var 2) (.cons (.var 3) .nil)))))) .skip
def tLtold_3 : R.T := .seq (.ret (.var 4)) .skip
def tLtold_4 : R.T := .seq (.tryx tLtold_2
 (.cons 5 (some 5) tLtold_1 (.cons 3 (some 5) tLtold_0 .nil))) tLtold_3
def tLtold_5 : R.T := .seq (.asg 4 (.cst .non)) tLtold_4
def tLtold : R.T :=
 tLtold_5
def fLtold : Fd := { ctor := none, nslots := 6, nargs := 4, body := tLtold }
def e43 : DefE := { kd := .glob "_law_told", name := "_law_told", qual := "_law_told", params := defArgs (top 57), body := defBody (top 57), scope := defScope (top 57), N := ["_law_game", "_law_plan", "_law_who", "_law_n", "_law_told_here", "e"], ps := ["_law_game", "_law_plan", "_law_who", "_law_n"], fd := fLtold }
/-- law -/
def tlaw_0 : R.T := .seq (.appO 15 (.tup (.cons (.var 8) (.cons (.var 5) .nil)))) .skip
def tlaw_1 : R.T := .seq (.asg 8 (.call 41 (.cons (.var 10) (.cons (.var 3) (.cons (.var 4) (.cons (.var 5) .nil)))))) tlaw_0
def tlaw_2 : R.T := .seq (.ret (.cst (.bl false))) .skip
def tlaw_3 : R.T := .seq (.ret (.cst (.bl false))) .skip
def tlaw_4 : R.T := .seq (.ret (.cst (.bl false))) .skip
def tlaw_5 : R.T := .seq (.ite (.cmp .ne (.call 43 (.cons (.var 13) (.cons (.var 14) (.cons (.var 4) (.cons (.idx (.lst (.cons (.cst (.int 0)) (.cons (.cst (.int 17)) (.cons (.neg (.cst (.int 1))) (.cons (.cst (.bl true)) (.cons (.cst .non) (.cons (.cst (.str "3")) .nil))))))) (.call 32 (.cons (.var 1) (.cons (.cst (.int 6)) .nil)))) .nil))))) (.cst (.str "number")))
 tlaw_4
 .skip) .skip
def tlaw_6 : R.T := .seq (.ite (.cmp .ne (.call 43 (.cons (.var 13) (.cons (.var 14) (.cons (.idx (.lst (.cons (.cst (.str "third")) (.cons (.cst .non) .nil))) (.call 32 (.cons (.var 1) (.cons (.cst (.int 2)) .nil)))) (.cons (.cst .non) .nil))))) (.cst (.str "who")))
 tlaw_3
 .skip) tlaw_5
def tlaw_7 : R.T := .seq (.ite (.cmp .ne (.call 30 (.cons (.var 13) (.cons (.var 14) (.cons (.var 4) (.cons (.var 12) .nil))))) (.var 7))
 tlaw_2
 .skip) tlaw_6
def tlaw_8 : R.T := .seq (.asg 7 (.tup (.cons (.var 8) (.cons (.var 5) (.cons (.blt 5 (.compN [17, 9] [17, 9] (.seq (.var 6)) (.cmp .eq (.var 17) (.var 8)) .nil (.var 9))) .nil))))) tlaw_7
def tlaw_9 : R.T := .seq (.asg 6 (.call 42 (.cons (.var 10) (.cons (.var 3) (.cons (.var 5) (.cons (.tup (.cons (.cst (.int 0)) (.cons (.var 12) .nil))) (.cons (.cst (.str "none")) (.cons (.cmp .eq (.var 4) (.cst (.str "first"))) .nil)))))))) tlaw_8
def tlaw_10 : R.T := .seq (.tupl [8, 5] (.blt 5 (.peek 15))) tlaw_9
def tlaw_11 : R.T := .seq (.for_ [5] (.seqF (.call 36 (.cons (.var 11) (.cons (.var 12) .nil))))
 tlaw_1) tlaw_10
def tlaw_12 : R.T := .seq (.parM [(13, false), (14, false), (15, true)] (.cons (.make 6 6 (.cons (.var 3) (.cons (.var 11) .nil))) (.cons (.make 7 15 (.cons (.var 10) .nil)) (.cons (.lst .nil) .nil)))) tlaw_11
def tlaw_13 : R.T := .seq (.par [10, 11, 12] (.cons (.call 34 (.cons (.var 1) (.cons (.var 3) .nil))) (.cons (.idx (.call 35 .nil) (.call 32 (.cons (.var 1) (.cons (.cst (.int 7)) .nil)))) (.cons (.bin .add (.cst (.int 1)) (.call 32 (.cons (.var 1) (.cons (.cst (.int 8)) .nil)))) .nil)))) tlaw_12
def tlaw_14 : R.T := .seq (.ret (.cmp .eq (.var 8) (.blt 5 (.compN [16] [16] (.seq (.call 36 (.cons (.var 11) (.cons (.cst (.int 16)) .nil)))) (.cst (.bl true)) .nil (.call 41 (.cons (.var 10) (.cons (.var 3) (.cons (.var 4) (.cons (.var 16) .nil))))))))) .skip
def tlaw_15 : R.T := .seq (.tupl [8, 5, 9] (.call 30 (.cons (.var 13) (.cons (.var 14) (.cons (.var 4) (.cons (.cst (.int 16)) .nil)))))) tlaw_14
def tlaw_16 : R.T := .seq (.for_ [2] (.rng1 (.cst (.int 3)))
 tlaw_13) tlaw_15
def tlaw_17 : R.T := .seq (.par [3, 4] (.cons (.idx (.lst (.cons (.cst (.str "one")) (.cons (.cst (.str "two")) .nil))) (.call 32 (.cons (.var 1) (.cons (.cst (.int 2)) .nil)))) (.cons (.idx (.lst (.cons (.cst (.str "first")) (.cons (.cst (.str "second")) .nil))) (.call 32 (.cons (.var 1) (.cons (.cst (.int 2)) .nil)))) .nil))) tlaw_16
def tlaw_18 : R.T := .seq (.asg 1 (.mk (.call 31 (.cons (.var 0) .nil)))) tlaw_17
def tlaw : R.T :=
 tlaw_18
def flaw : Fd := { ctor := none, nslots := 18, nargs := 1, body := tlaw }
def e44 : DefE := { kd := .glob "law", name := "law", qual := "law", params := defArgs (top 58), body := defBody (top 58), scope := defScope (top 58), N := ["_law_script", "_law_row", "_law_turn", "_law_rule", "_law_who", "_law_some", "_law_every", "_law_due", "_law_lead", "_law_others", "_law_table_here", "_law_fact", "_law_n", "_law_game", "_law_plan", "_law_found", "_law_one", "_law_least_here"], ps := ["_law_script"], fd := flaw }
def L : LawD := { defs := [e0, e1, e2, e3, e4, e5, e6, e7, e8, e9, e10, e11, e12, e13, e14, e15, e16, e17, e18, e19, e20, e21, e22, e23, e24, e25, e26, e27, e28, e29, e30, e31, e32, e33, e34, e35, e36, e37, e38, e39, e40, e41, e42, e43, e44], cn := ["RowError", "BadRule", "BadFact", "BadNumber", "BadTable", "BadWho", "Game", "Plan", "Bringing"], clsI := [6, 7, 8], fields := fun c => match c with | 6 => ["way", "known"] | 7 => ["told_by"] | 8 => ["led_by", "way", "worths", "lowest"] | _ => [], gls := [("RULES", (.tup [(.str "one"), (.str "two")])), ("FACTS", (.tup [(.str "any"), (.str "even"), (.str "falling"), (.str "flat"), (.str "pairs"), (.str "rising"), (.str "valley")])), ("LEFT", (.str "left")), ("SIDES", (.tup [(.str "left"), (.str "right")])), ("FIRST", (.str "first")), ("NONE", (.str "none")), ("LASTS", (.tup [(.str "left"), (.str "none"), (.str "right")])), ("MOST_TAKEN", (.int 2)), ("WHOS", (.tup [(.str "first"), (.str "second")])), ("MOST_WORST", (.int 16))], sub := [((2, 3), false), ((2, 5), false), ((2, 0), true), ((3, 3), true), ((3, 5), false), ((3, 0), true), ((1, 3), false), ((1, 5), false), ((1, 0), true), ((5, 3), false), ((5, 5), true), ((5, 0), true)], mk0I := [2, 3, 1, 5], excI := [3, 5, 0], free := ["all", "bool", "dict", "int", "isinstance", "len", "list", "min", "range", "sorted", "str", "sum", "tuple"] }
theorem b0 : BndOk e0 := fun _ _ _ _ _ _ us hl => match us, hl with | [_], _ => rfl
theorem s0 : statB L e0 = true := by decide +kernel
theorem b1 : BndOk e1 := fun _ _ _ _ _ _ us hl => match us, hl with | [_, _, _], _ => rfl
theorem s1 : statB L e1 = true := by decide +kernel
theorem b2 : BndOk e2 := fun _ _ _ _ _ _ us hl => match us, hl with | [_, _], _ => rfl
theorem s2 : statB L e2 = true := by decide +kernel
theorem b3 : BndOk e3 := fun _ _ _ _ _ _ us hl => match us, hl with | [_], _ => rfl
theorem s3 : statB L e3 = true := by decide +kernel
theorem b4 : BndOk e4 := fun _ _ _ _ _ _ us hl => match us, hl with | [_], _ => rfl
theorem s4 : statB L e4 = true := by decide +kernel
theorem b5 : BndOk e5 := fun _ _ _ _ _ _ us hl => match us, hl with | [_, _], _ => rfl
theorem s5 : statB L e5 = true := by decide +kernel
theorem b6 : BndOk e6 := fun _ _ _ _ _ _ us hl => match us, hl with | [_, _, _], _ => rfl
theorem s6 : statB L e6 = true := by decide +kernel
theorem b7 : BndOk e7 := fun _ _ _ _ _ _ us hl => match us, hl with | [_], _ => rfl
theorem s7 : statB L e7 = true := by decide +kernel
theorem b8 : BndOk e8 := fun _ _ _ _ _ _ us hl => match us, hl with | [_], _ => rfl
theorem s8 : statB L e8 = true := by decide +kernel
theorem b9 : BndOk e9 := fun _ _ _ _ _ _ us hl => match us, hl with | [_, _], _ => rfl
theorem s9 : statB L e9 = true := by decide +kernel
theorem b10 : BndOk e10 := fun _ _ _ _ _ _ us hl => match us, hl with | [_, _, _], _ => rfl
theorem s10 : statB L e10 = true := by decide +kernel
theorem b11 : BndOk e11 := fun _ _ _ _ _ _ us hl => match us, hl with | [_, _], _ => rfl
theorem s11 : statB L e11 = true := by decide +kernel
theorem b12 : BndOk e12 := fun _ _ _ _ _ _ us hl => match us, hl with | [], _ => rfl
theorem s12 : statB L e12 = true := by decide +kernel
theorem b13 : BndOk e13 := fun _ _ _ _ _ _ us hl => match us, hl with | [_], _ => rfl
theorem s13 : statB L e13 = true := by decide +kernel
theorem b14 : BndOk e14 := fun _ _ _ _ _ _ us hl => match us, hl with | [_], _ => rfl
theorem s14 : statB L e14 = true := by decide +kernel
theorem b15 : BndOk e15 := fun _ _ _ _ _ _ us hl => match us, hl with | [_, _], _ => rfl
theorem s15 : statB L e15 = true := by decide +kernel
theorem b16 : BndOk e16 := fun _ _ _ _ _ _ us hl => match us, hl with | [_], _ => rfl
theorem s16 : statB L e16 = true := by decide +kernel
theorem b17 : BndOk e17 := fun _ _ _ _ _ _ us hl => match us, hl with | [_, _], _ => rfl
theorem s17 : statB L e17 = true := by decide +kernel
theorem b18 : BndOk e18 := fun _ _ _ _ _ _ us hl => match us, hl with | [_, _, _, _, _], _ => rfl
theorem s18 : statB L e18 = true := by decide +kernel
theorem b19 : BndOk e19 := fun _ _ _ _ _ _ us hl => match us, hl with | [_, _], _ => rfl
theorem s19 : statB L e19 = true := by decide +kernel
theorem b20 : BndOk e20 := fun _ _ _ _ _ _ us hl => match us, hl with | [_], _ => rfl
theorem s20 : statB L e20 = true := by decide +kernel
theorem b21 : BndOk e21 := fun _ _ _ _ _ _ us hl => match us, hl with | [_, _], _ => rfl
theorem s21 : statB L e21 = true := by decide +kernel
theorem b22 : BndOk e22 := fun _ _ _ _ _ _ us hl => match us, hl with | [_, _], _ => rfl
theorem s22 : statB L e22 = true := by decide +kernel
theorem b23 : BndOk e23 := fun _ _ _ _ _ _ us hl => match us, hl with | [_, _, _, _], _ => rfl
theorem s23 : statB L e23 = true := by decide +kernel
theorem b24 : BndOk e24 := fun _ _ _ _ _ _ us hl => match us, hl with | [_, _, _, _], _ => rfl
theorem s24 : statB L e24 = true := by decide +kernel
theorem b25 : BndOk e25 := fun _ _ _ _ _ _ us hl => match us, hl with | [_, _, _, _], _ => rfl
theorem s25 : statB L e25 = true := by decide +kernel
theorem b26 : BndOk e26 := fun _ _ _ _ _ _ us hl => match us, hl with | [_, _, _, _, _], _ => rfl
theorem s26 : statB L e26 = true := by decide +kernel
theorem b27 : BndOk e27 := fun _ _ _ _ _ _ us hl => match us, hl with | [_, _], _ => rfl
theorem s27 : statB L e27 = true := by decide +kernel
theorem b28 : BndOk e28 := fun _ _ _ _ _ _ us hl => match us, hl with | [_, _, _, _], _ => rfl
theorem s28 : statB L e28 = true := by decide +kernel
theorem b29 : BndOk e29 := fun _ _ _ _ _ _ us hl => match us, hl with | [_, _, _, _], _ => rfl
theorem s29 : statB L e29 = true := by decide +kernel
theorem b30 : BndOk e30 := fun _ _ _ _ _ _ us hl => match us, hl with | [_, _, _, _], _ => rfl
theorem s30 : statB L e30 = true := by decide +kernel
theorem b31 : BndOk e31 := fun _ _ _ _ _ _ us hl => match us, hl with | [_], _ => rfl
theorem s31 : statB L e31 = true := by decide +kernel
theorem b32 : BndOk e32 := fun _ _ _ _ _ _ us hl => match us, hl with | [_, _], _ => rfl
theorem s32 : statB L e32 = true := by decide +kernel
theorem b33 : BndOk e33 := fun _ _ _ _ _ _ us hl => match us, hl with | [], _ => rfl
theorem s33 : statB L e33 = true := by decide +kernel
theorem b34 : BndOk e34 := fun _ _ _ _ _ _ us hl => match us, hl with | [_, _], _ => rfl
theorem s34 : statB L e34 = true := by decide +kernel
theorem b35 : BndOk e35 := fun _ _ _ _ _ _ us hl => match us, hl with | [], _ => rfl
theorem s35 : statB L e35 = true := by decide +kernel
theorem b36 : BndOk e36 := fun _ _ _ _ _ _ us hl => match us, hl with | [_, _], _ => rfl
theorem s36 : statB L e36 = true := by decide +kernel
theorem b37 : BndOk e37 := fun _ _ _ _ _ _ us hl => match us, hl with | [_, _], _ => rfl
theorem s37 : statB L e37 = true := by decide +kernel
theorem b38 : BndOk e38 := fun _ _ _ _ _ _ us hl => match us, hl with | [_, _, _, _, _], _ => rfl
theorem s38 : statB L e38 = true := by decide +kernel
theorem b39 : BndOk e39 := fun _ _ _ _ _ _ us hl => match us, hl with | [_, _], _ => rfl
theorem s39 : statB L e39 = true := by decide +kernel
theorem b40 : BndOk e40 := fun _ _ _ _ _ _ us hl => match us, hl with | [_, _, _, _, _, _, _], _ => rfl
theorem s40 : statB L e40 = true := by decide +kernel
theorem b41 : BndOk e41 := fun _ _ _ _ _ _ us hl => match us, hl with | [_, _, _, _], _ => rfl
theorem s41 : statB L e41 = true := by decide +kernel
theorem b42 : BndOk e42 := fun _ _ _ _ _ _ us hl => match us, hl with | [_, _, _, _, _, _], _ => rfl
theorem s42 : statB L e42 = true := by decide +kernel
theorem b43 : BndOk e43 := fun _ _ _ _ _ _ us hl => match us, hl with | [_, _, _, _], _ => rfl
theorem s43 : statB L e43 = true := by decide +kernel
theorem b44 : BndOk e44 := fun _ _ _ _ _ _ us hl => match us, hl with | [_], _ => rfl
theorem s44 : statB L e44 = true := by decide +kernel
theorem bnd : AllD BndOk L.defs := ⟨b0, b1, b2, b3, b4, b5, b6, b7, b8, b9, b10, b11, b12, b13, b14, b15, b16, b17, b18, b19, b20, b21, b22, b23, b24, b25, b26, b27, b28, b29, b30, b31, b32, b33, b34, b35, b36, b37, b38, b39, b40, b41, b42, b43, b44, trivial⟩
theorem stat : AllD (fun e => statB L e = true) L.defs := ⟨s0, s1, s2, s3, s4, s5, s6, s7, s8, s9, s10, s11, s12, s13, s14, s15, s16, s17, s18, s19, s20, s21, s22, s23, s24, s25, s26, s27, s28, s29, s30, s31, s32, s33, s34, s35, s36, s37, s38, s39, s40, s41, s42, s43, s44, trivial⟩
def loose : List Str := (["RowError", "BadRule", "BadFact", "BadNumber", "BadTable", "BadWho", "RULES", "FACTS", "LEFT", "SIDES", "FIRST", "is_integer", "is_from", "is_one_of", "check_rule", "check_fact", "check_number", "Game", "stretch", "simple_rows", "NONE", "LASTS", "MOST_TAKEN", "all_keys", "is_move", "is_key", "Plan", "planned", "moves_of", "WHOS"] : List Str) ++ (["check_who", "taken", "worth_of", "Bringing", "first_standing", "brought", "MOST_WORST", "least_with", "worst", "_law_draws", "_law_pick", "_law_keys", "_law_table", "_law_facts", "_law_simple", "_law_moves", "_law_planned", "_law_behind", "_law_least", "_law_brought", "_law_plays", "_law_told"] : List Str)
def lawAt : Nat := 58
def lawF : Nat := 44
end K06

set_option maxHeartbeats 4000000
namespace K06
open PySem R
/-! ### moves, as the program and the law do them -/
theorem gl_LEFT : L.tab.gl 2 = some (.str "left") := rfl
theorem gl_SIDES : L.tab.gl 3 = some (.tup [.str "left", .str "right"]) := rfl
theorem q1 : eqD (.str "two") (.str "two") = some true := cmp_str2 (by decide +kernel) (by decide +kernel) (by decide +kernel)
theorem q2 : eqD (.str "one") (.str "two") = some false := cmp_str2 (by decide +kernel) (by decide +kernel) (by decide +kernel)
theorem rl_t : rl true = "two" := rfl
theorem rl_f : rl false = "one" := rfl
section
variable (j : Nat) (S : Store)
theorem s_moves_of (two : Bool) (r : Int) : callN L.tab (j + 1) 19 [.str (rl two), .int r] S = .ok (.own (.lst ((mvs two r).map mvD))) S := by
  show runFd L.tab (callN L.tab j) fmoves_of [.str (rl two), .int r] S = _
  rw [run_def rfl rfl]
  show outF (exT _ _ tmoves_of_1 [.val (.str (rl two)), .val (.int r), .un, .un, .un] S) = _
  unfold mvs
  cases two <;> by_cases h0 : 0 < r <;> by_cases h1 : 1 < r <;> simp only [tmoves_of_1, exT, evE, evL, evI, evM, Out.bind_ok, Out.thn_ok, Out.bind_exc, Out.thn_exc, Out.nox, OutS.thn_nx, OutS.thn_rt, OutS.thn_exc, outF, List.getElem?_cons_zero, List.getElem?_cons_succ, List.getElem?_nil, vw_int, vw_bl, vw_non, vw_str, vw_tup, vw_lst, vw_dct, vw_ins, vw_scr, vw_obj, vw_own, vw_tmp, d_lst, d_dct, d_ins, fz_val, fz_own, lk_val, lk_own, lk_tmp, sq_tup, sq_lst, vw_sp, vw_mv, vw_row, List.all_cons, List.all_nil, free1_eq, plainS_val, plainS_un, plainS_lst, plainS_dct, Option.getD_some, notIns, putAll, putM, put, putT, List.map_cons, List.map_nil, List.set_cons_zero, List.set_cons_succ, List.length_cons, List.length_nil, List.nil_append, List.cons_append, Bool.and_self, Bool.and_true, Bool.true_and, Bool.and_false, Bool.false_and, Bool.not_true, Bool.not_false, if_true, ite_true, ite_false, beq_self_eq_true, Option.bind_some, Option.map_some, Nat.zero_add, Nat.reduceAdd, Nat.reduceBEq, Nat.reduceLeDiff, Nat.reduceLT, Nat.reduceEqDiff, decide_true, decide_false, I.stays, vI, vB, reduceIte, Bool.false_eq_true, Bool.true_eq_false, lim, b_addI, b_subI, cmpop_lt, cmpop_le, cmpop_gt, cmpop_ge, cmpop_eq, cmpop_ne, isNon, Bool.bne_true, Bool.bne_false, bne_false2, bne_true2, h0, h1, rl_t, rl_f, q1, q2] <;> simp only [tmoves_of_0, exT, evE, evL, evI, evM, Out.bind_ok, Out.thn_ok, Out.bind_exc, Out.thn_exc, Out.nox, OutS.thn_nx, OutS.thn_rt, OutS.thn_exc, outF, List.getElem?_cons_zero, List.getElem?_cons_succ, List.getElem?_nil, vw_int, vw_bl, vw_non, vw_str, vw_tup, vw_lst, vw_dct, vw_ins, vw_scr, vw_obj, vw_own, vw_tmp, d_lst, d_dct, d_ins, fz_val, fz_own, lk_val, lk_own, lk_tmp, sq_tup, sq_lst, vw_sp, vw_mv, vw_row, List.all_cons, List.all_nil, free1_eq, plainS_val, plainS_un, plainS_lst, plainS_dct, Option.getD_some, notIns, putAll, putM, put, putT, List.map_cons, List.map_nil, List.set_cons_zero, List.set_cons_succ, List.length_cons, List.length_nil, List.nil_append, List.cons_append, Bool.and_self, Bool.and_true, Bool.true_and, Bool.and_false, Bool.false_and, Bool.not_true, Bool.not_false, if_true, ite_true, ite_false, beq_self_eq_true, Option.bind_some, Option.map_some, Nat.zero_add, Nat.reduceAdd, Nat.reduceBEq, Nat.reduceLeDiff, Nat.reduceLT, Nat.reduceEqDiff, decide_true, decide_false, I.stays, vI, vB, reduceIte, Bool.false_eq_true, Bool.true_eq_false, lim, b_addI, b_subI, cmpop_lt, cmpop_le, cmpop_gt, cmpop_ge, cmpop_eq, cmpop_ne, isNon, Bool.bne_true, Bool.bne_false, bne_false2, bne_true2, h0, h1, gl_SIDES, itLoop, evC] <;> rfl
theorem s_Lmoves (two : Bool) (r : Int) : callN L.tab (j + 1) 37 [.str (rl two), .int r] S = .ok (.own (.lst ((mvs two r).map mvD))) S := by
  show runFd L.tab (callN L.tab j) fLmoves [.str (rl two), .int r] S = _
  rw [run_def rfl rfl]
  show outF (exT _ _ tLmoves_6 [.val (.str (rl two)), .val (.int r), .un, .un] S) = _
  unfold mvs
  cases two <;> by_cases h0 : 0 < r <;> by_cases h1 : 1 < r <;> simp only [tLmoves_6, exT, evE, evL, evI, evM, Out.bind_ok, Out.thn_ok, Out.bind_exc, Out.thn_exc, Out.nox, OutS.thn_nx, OutS.thn_rt, OutS.thn_exc, outF, List.getElem?_cons_zero, List.getElem?_cons_succ, List.getElem?_nil, vw_int, vw_bl, vw_non, vw_str, vw_tup, vw_lst, vw_dct, vw_ins, vw_scr, vw_obj, vw_own, vw_tmp, d_lst, d_dct, d_ins, fz_val, fz_own, lk_val, lk_own, lk_tmp, sq_tup, sq_lst, vw_sp, vw_mv, vw_row, List.all_cons, List.all_nil, free1_eq, plainS_val, plainS_un, plainS_lst, plainS_dct, Option.getD_some, notIns, putAll, putM, put, putT, List.map_cons, List.map_nil, List.set_cons_zero, List.set_cons_succ, List.length_cons, List.length_nil, List.nil_append, List.cons_append, Bool.and_self, Bool.and_true, Bool.true_and, Bool.and_false, Bool.false_and, Bool.not_true, Bool.not_false, if_true, ite_true, ite_false, beq_self_eq_true, Option.bind_some, Option.map_some, Nat.zero_add, Nat.reduceAdd, Nat.reduceBEq, Nat.reduceLeDiff, Nat.reduceLT, Nat.reduceEqDiff, decide_true, decide_false, I.stays, vI, vB, reduceIte, Bool.false_eq_true, Bool.true_eq_false, lim, b_addI, b_subI, cmpop_lt, cmpop_le, cmpop_gt, cmpop_ge, cmpop_eq, cmpop_ne, isNon, Bool.bne_true, Bool.bne_false, bne_false2, bne_true2] <;> simp only [tLmoves_5, exT, evE, evL, evI, evM, Out.bind_ok, Out.thn_ok, Out.bind_exc, Out.thn_exc, Out.nox, OutS.thn_nx, OutS.thn_rt, OutS.thn_exc, outF, List.getElem?_cons_zero, List.getElem?_cons_succ, List.getElem?_nil, vw_int, vw_bl, vw_non, vw_str, vw_tup, vw_lst, vw_dct, vw_ins, vw_scr, vw_obj, vw_own, vw_tmp, d_lst, d_dct, d_ins, fz_val, fz_own, lk_val, lk_own, lk_tmp, sq_tup, sq_lst, vw_sp, vw_mv, vw_row, List.all_cons, List.all_nil, free1_eq, plainS_val, plainS_un, plainS_lst, plainS_dct, Option.getD_some, notIns, putAll, putM, put, putT, List.map_cons, List.map_nil, List.set_cons_zero, List.set_cons_succ, List.length_cons, List.length_nil, List.nil_append, List.cons_append, Bool.and_self, Bool.and_true, Bool.true_and, Bool.and_false, Bool.false_and, Bool.not_true, Bool.not_false, if_true, ite_true, ite_false, beq_self_eq_true, Option.bind_some, Option.map_some, Nat.zero_add, Nat.reduceAdd, Nat.reduceBEq, Nat.reduceLeDiff, Nat.reduceLT, Nat.reduceEqDiff, decide_true, decide_false, I.stays, vI, vB, reduceIte, Bool.false_eq_true, Bool.true_eq_false, lim, b_addI, b_subI, cmpop_lt, cmpop_le, cmpop_gt, cmpop_ge, cmpop_eq, cmpop_ne, isNon, Bool.bne_true, Bool.bne_false, bne_false2, bne_true2, forLoop] <;>
    simp only [tLmoves_3, tLmoves_2, tLmoves_1, tLmoves_0, exT, evE, evL, evI, evM, Out.bind_ok, Out.thn_ok, Out.bind_exc, Out.thn_exc, Out.nox, OutS.thn_nx, OutS.thn_rt, OutS.thn_exc, outF, List.getElem?_cons_zero, List.getElem?_cons_succ, List.getElem?_nil, vw_int, vw_bl, vw_non, vw_str, vw_tup, vw_lst, vw_dct, vw_ins, vw_scr, vw_obj, vw_own, vw_tmp, d_lst, d_dct, d_ins, fz_val, fz_own, lk_val, lk_own, lk_tmp, sq_tup, sq_lst, vw_sp, vw_mv, vw_row, List.all_cons, List.all_nil, free1_eq, plainS_val, plainS_un, plainS_lst, plainS_dct, Option.getD_some, notIns, putAll, putM, put, putT, List.map_cons, List.map_nil, List.set_cons_zero, List.set_cons_succ, List.length_cons, List.length_nil, List.nil_append, List.cons_append, Bool.and_self, Bool.and_true, Bool.true_and, Bool.and_false, Bool.false_and, Bool.not_true, Bool.not_false, if_true, ite_true, ite_false, beq_self_eq_true, Option.bind_some, Option.map_some, Nat.zero_add, Nat.reduceAdd, Nat.reduceBEq, Nat.reduceLeDiff, Nat.reduceLT, Nat.reduceEqDiff, decide_true, decide_false, I.stays, vI, vB, reduceIte, Bool.false_eq_true, Bool.true_eq_false, lim, b_addI, b_subI, cmpop_lt, cmpop_le, cmpop_gt, cmpop_ge, cmpop_eq, cmpop_ne, isNon, Bool.bne_true, Bool.bne_false, bne_false2, bne_true2, h0, h1, rl_t, rl_f, q1, q2] <;> first | rfl | (simp only [tLmoves_4, exT, evE, evL, evI, evM, Out.bind_ok, Out.thn_ok, Out.bind_exc, Out.thn_exc, Out.nox, OutS.thn_nx, OutS.thn_rt, OutS.thn_exc, outF, List.getElem?_cons_zero, List.getElem?_cons_succ, List.getElem?_nil, vw_int, vw_bl, vw_non, vw_str, vw_tup, vw_lst, vw_dct, vw_ins, vw_scr, vw_obj, vw_own, vw_tmp, d_lst, d_dct, d_ins, fz_val, fz_own, lk_val, lk_own, lk_tmp, sq_tup, sq_lst, vw_sp, vw_mv, vw_row, List.all_cons, List.all_nil, free1_eq, plainS_val, plainS_un, plainS_lst, plainS_dct, Option.getD_some, notIns, putAll, putM, put, putT, List.map_cons, List.map_nil, List.set_cons_zero, List.set_cons_succ, List.length_cons, List.length_nil, List.nil_append, List.cons_append, Bool.and_self, Bool.and_true, Bool.true_and, Bool.and_false, Bool.false_and, Bool.not_true, Bool.not_false, if_true, ite_true, ite_false, beq_self_eq_true, Option.bind_some, Option.map_some, Nat.zero_add, Nat.reduceAdd, Nat.reduceBEq, Nat.reduceLeDiff, Nat.reduceLT, Nat.reduceEqDiff, decide_true, decide_false, I.stays, vI, vB, reduceIte, Bool.false_eq_true, Bool.true_eq_false, lim, b_addI, b_subI, cmpop_lt, cmpop_le, cmpop_gt, cmpop_ge, cmpop_eq, cmpop_ne, isNon, Bool.bne_true, Bool.bne_false, bne_false2, bne_true2]; done) | (simp only [tLmoves_4, exT, evE, evL, evI, evM, Out.bind_ok, Out.thn_ok, Out.bind_exc, Out.thn_exc, Out.nox, OutS.thn_nx, OutS.thn_rt, OutS.thn_exc, outF, List.getElem?_cons_zero, List.getElem?_cons_succ, List.getElem?_nil, vw_int, vw_bl, vw_non, vw_str, vw_tup, vw_lst, vw_dct, vw_ins, vw_scr, vw_obj, vw_own, vw_tmp, d_lst, d_dct, d_ins, fz_val, fz_own, lk_val, lk_own, lk_tmp, sq_tup, sq_lst, vw_sp, vw_mv, vw_row, List.all_cons, List.all_nil, free1_eq, plainS_val, plainS_un, plainS_lst, plainS_dct, Option.getD_some, notIns, putAll, putM, put, putT, List.map_cons, List.map_nil, List.set_cons_zero, List.set_cons_succ, List.length_cons, List.length_nil, List.nil_append, List.cons_append, Bool.and_self, Bool.and_true, Bool.true_and, Bool.and_false, Bool.false_and, Bool.not_true, Bool.not_false, if_true, ite_true, ite_false, beq_self_eq_true, Option.bind_some, Option.map_some, Nat.zero_add, Nat.reduceAdd, Nat.reduceBEq, Nat.reduceLeDiff, Nat.reduceLT, Nat.reduceEqDiff, decide_true, decide_false, I.stays, vI, vB, reduceIte, Bool.false_eq_true, Bool.true_eq_false, lim, b_addI, b_subI, cmpop_lt, cmpop_le, cmpop_gt, cmpop_ge, cmpop_eq, cmpop_ne, isNon, Bool.bne_true, Bool.bne_false, bne_false2, bne_true2]; rfl) | (exfalso; omega)
theorem s_taken (s : Sp) (m : Mv) (h : m.1 = ("left" : Str) ∨ m.1 = "right") : callN L.tab (j + 1) 21 [spD s, mvD m] S = .ok (.val (.tup [spD (aft s m), spD (tkn s m)])) S := by
  obtain ⟨a, b⟩ := s
  obtain ⟨t, n⟩ := m
  show runFd L.tab (callN L.tab j) ftaken [.tup [.int a, .int b], .tup [.str t, .int n]] S = _
  rcases h with h | h <;> cases h
  · kernel_rfl
  · kernel_rfl
theorem s_Lbehind (s : Sp) (m : Mv) (h : m.1 = ("left" : Str) ∨ m.1 = "right") : callN L.tab (j + 1) 39 [spD s, mvD m] S = .ok (.own (.lst [spD (aft s m), spD (tkn s m)])) S := by
  obtain ⟨a, b⟩ := s
  obtain ⟨t, n⟩ := m
  show runFd L.tab (callN L.tab j) fLbehind [.tup [.int a, .int b], .tup [.str t, .int n]] S = _
  rcases h with h | h <;> cases h
  · kernel_rfl
  · kernel_rfl
theorem s_worth_of (ws : List Int) (s : Sp) (h0 : 0 ≤ s.1) (h1 : s.1 ≤ s.2) (h2 : s.2 ≤ ws.length) : callN L.tab (j + 1) 22 [rowD ws, spD s] S = .ok (.val (.int (gn ws s))) S := by
  show runFd L.tab (callN L.tab j) fworth_of [rowD ws, spD s] S = _
  rw [run_def rfl rfl]
  show outF (exT _ _ tworth_of_0 [.val (.tup (ws.map D.int)), .val (.tup [.int s.1, .int s.2])] S) = _
  have e1 : idxop (.tup [.int s.1, .int s.2]) (.int 0) = some (.int s.1) := rfl
  have e2 : idxop (.tup [.int s.1, .int s.2]) (.int 1) = some (.int s.2) := rfl
  simp only [tworth_of_0, exT, evE, evL, evI, evM, Out.bind_ok, Out.thn_ok, Out.bind_exc, Out.thn_exc, Out.nox, OutS.thn_nx, OutS.thn_rt, OutS.thn_exc, outF, List.getElem?_cons_zero, List.getElem?_cons_succ, List.getElem?_nil, vw_int, vw_bl, vw_non, vw_str, vw_tup, vw_lst, vw_dct, vw_ins, vw_scr, vw_obj, vw_own, vw_tmp, d_lst, d_dct, d_ins, fz_val, fz_own, lk_val, lk_own, lk_tmp, sq_tup, sq_lst, vw_sp, vw_mv, vw_row, List.all_cons, List.all_nil, free1_eq, plainS_val, plainS_un, plainS_lst, plainS_dct, Option.getD_some, notIns, putAll, putM, put, putT, List.map_cons, List.map_nil, List.set_cons_zero, List.set_cons_succ, List.length_cons, List.length_nil, List.nil_append, List.cons_append, Bool.and_self, Bool.and_true, Bool.true_and, Bool.and_false, Bool.false_and, Bool.not_true, Bool.not_false, if_true, ite_true, ite_false, beq_self_eq_true, Option.bind_some, Option.map_some, Nat.zero_add, Nat.reduceAdd, Nat.reduceBEq, Nat.reduceLeDiff, Nat.reduceLT, Nat.reduceEqDiff, decide_true, decide_false, I.stays, vI, vB, reduceIte, Bool.false_eq_true, Bool.true_eq_false, lim, b_addI, b_subI, cmpop_lt, cmpop_le, cmpop_gt, cmpop_ge, cmpop_eq, cmpop_ne, isNon, Bool.bne_true, Bool.bne_false, bne_false2, bne_true2, e1, e2, sliceD, cut_row h0 h1 h2, bltop, ints_map, gn]
end
end K06

set_option maxHeartbeats 4000000
namespace K06
open PySem R
section
variable (j : Nat) (R : Store)
/-! draws -/
theorem s_pick (ns : List Int) (i a b many : Int) (hi : 0 ≤ i) (ha : 0 ≤ a) (hm : 0 < many) (hm2 : many < 10 ^ 21) :
    ∃ i' a' b' r, 0 ≤ i' ∧ 0 ≤ a' ∧ 0 ≤ r ∧ r < many ∧ callN L.tab (j + 1) 32 [.obj 0, .int many] (row ns i a b R) = .ok (.val (.int r)) (row ns i' a' b' R) :=
  pick_ok R ns i a b many hi ha hm hm2
theorem s_pickR {S : Store} (h : IsRow S) (many : Int) (hm : 0 < many) (hm2 : many < 10 ^ 21) :
    ∃ S' r, IsRow S' ∧ Same S S' ∧ 0 ≤ r ∧ r < many ∧ callN L.tab (j + 1) 32 [.obj 0, .int many] S = .ok (.val (.int r)) S' := pick_row h many hm hm2
end
end K06

set_option maxHeartbeats 4000000
namespace K06
open PySem R
/-! ### tables, plans -/
section
variable (j : Nat) (S : Store) {two : Bool} {T : Tb3}
theorem cl_Plan : L.tab.cls 7 = true := rfl
theorem s_all_keys : callN L.tab (j + 1) 12 [] S = .ok (.own (.lst (keys12.map k3D))) S := by kernel_rfl
theorem s_Lkeys : callN L.tab (j + 1) 33 [] S = .ok (.val (.lst (keys12.map k3D))) S := by kernel_rfl
theorem s_is_move (m : Mv) (h : okM m) : callN L.tab (j + 3) 13 [mvD m] S = .ok (.val (.bl true)) S := by
  obtain ⟨t, n⟩ := m
  obtain ⟨h1, h2⟩ := h
  rcases h1 with h | h <;> cases h <;> rcases h2 with h | h <;> cases h <;> kernel_rfl
/-- the move a plan does -/
theorem s_planned_at (hT : okTb T) (st : Sg) (h : okL st.2.1) : idxop (.dct (tabD T)) (.tup [.int (rest st % 2), .int (st.1.1 % 2), .str st.2.1]) = some (mvD (T (rest st % 2) (st.1.1 % 2) st.2.1)) := tab_idx T (by omega) (by omega) h
theorem one_rl (two : Bool) : cmpop .eq (.str (rl two)) (.str "one") = some (!two) := by cases two <;> kernel_rfl
theorem many_ite (C : Calls) (ρ : REnv) (r n : Int) (h1 : ρ[1]? = some (.val (.str (rl two)))) (h2 : ρ[2]? = some (.val (.int r))) (h6 : ρ[6]? = some (.val (.int n))) :
    evE L.tab C (.ite (.or (.cmp .eq (.var 1) (.cst (.str "one"))) (.cmp .eq (.var 2) (.cst (.int 1)))) (.cst (.int 1)) (.var 6)) ρ S = .ok (.val (.int (if two = false ∨ r = 1 then 1 else n))) S := by
  have c1 : evE L.tab C (.cmp .eq (.var 1) (.cst (.str "one"))) ρ S = .ok (.val (.bl (!two))) S := ev_cmp (var_at h1) ev_cst rfl rfl (one_rl two)
  have c2 : evE L.tab C (.cmp .eq (.var 2) (.cst (.int 1))) ρ S = .ok (.val (.bl (decide (r = 1)))) S := ev_cmp (var_at h2) ev_cst rfl rfl (cmp_eqI _ _)
  cases two with
  | false =>
    rw [if_pos (.inl rfl)]
    refine ev_iteT ?_ ev_cst
    rw [evE, c1]
    rfl
  | true =>
    by_cases h : r = 1
    · rw [decide_eq_true h] at c2
      rw [if_pos (.inr h)]
      exact ev_iteT (ev_orF c1 c2) ev_cst
    · rw [decide_eq_false h] at c2
      rw [if_neg (by simp [h])]
      exact ev_iteF (ev_orF c1 c2) (var_at h6)
theorem s_planned (hT : okTb T) (st : Sg) (h : okL st.2.1) : callN L.tab (j + 1) 18 [.ins 7 [.dct (tabD T)], .str (rl two), .int (rest st), .int st.1.1, .str st.2.1] S = .ok (.val (mvD (ownM two T st))) S := by
  show runFd L.tab (callN L.tab j) fplanned [.ins 7 [.dct (tabD T)], .str (rl two), .int (rest st), .int st.1.1, .str st.2.1] S = _
  rw [run_def rfl rfl]
  show outF (exT _ _ tplanned_1 [.val (.ins 7 [.dct (tabD T)]), .val (.str (rl two)), .val (.int (rest st)), .val (.int st.1.1), .val (.str st.2.1), .un, .un] S) = _
  have e0 := s_planned_at (T := T) hT st h
  unfold tplanned_1
  rw [sq (ex_tupl2 (x := .str (T (rest st % 2) (st.1.1 % 2) st.2.1).1) (y := .int (T (rest st % 2) (st.1.1 % 2) st.2.1).2) (ev_idx (x := .dct (tabD T)) (ra := .val (.dct (tabD T))) (rb := .val (.tup [.int (rest st % 2), .int (st.1.1 % 2), .str st.2.1])) (by kernel_rfl) (ev_tup (el_cons (ev_bin (r := .val (.int (rest st % 2))) rfl rfl rfl rfl (modS (by decide))) rfl (el_cons (ev_bin (r := .val (.int (st.1.1 % 2))) rfl rfl rfl rfl (modS (by decide))) rfl (el_cons (var_at rfl) rfl el_nil))) (by show 3 ≤ 1000000; decide)) rfl rfl e0) rfl) rfl]
  unfold tplanned_0
  rw [sqR (ex_ret (ev_tup (xs := [.str (T (rest st % 2) (st.1.1 % 2) st.2.1).1, .int (if two = false ∨ rest st = 1 then 1 else (T (rest st % 2) (st.1.1 % 2) st.2.1).2)]) (el_cons (var_at rfl) rfl (el_cons (many_ite S _ _ (rest st) _ rfl rfl rfl) rfl el_nil)) (by show 2 ≤ 1000000; decide)))]
  rfl
theorem s_Lplanned (hT : okTb T) (st : Sg) (h : okL st.2.1) : callN L.tab (j + 1) 38 [.dct (tabD T), .str (rl two), .int (rest st), .int st.1.1, .str st.2.1] S = .ok (.val (mvD (ownM two T st))) S := by
  show runFd L.tab (callN L.tab j) fLplanned [.dct (tabD T), .str (rl two), .int (rest st), .int st.1.1, .str st.2.1] S = _
  rw [run_def rfl rfl]
  show outF (exT _ _ tLplanned_1 [.val (.dct (tabD T)), .val (.str (rl two)), .val (.int (rest st)), .val (.int st.1.1), .val (.str st.2.1), .un, .un] S) = _
  have e0 := s_planned_at (T := T) hT st h
  unfold tLplanned_1
  rw [sq (ex_tupl2 (x := .str (T (rest st % 2) (st.1.1 % 2) st.2.1).1) (y := .int (T (rest st % 2) (st.1.1 % 2) st.2.1).2) (ev_idx (x := .dct (tabD T)) (ra := .val (.dct (tabD T))) (rb := .val (.tup [.int (rest st % 2), .int (st.1.1 % 2), .str st.2.1])) rfl (ev_tup (el_cons (ev_bin (r := .val (.int (rest st % 2))) rfl rfl rfl rfl (modS (by decide))) rfl (el_cons (ev_bin (r := .val (.int (st.1.1 % 2))) rfl rfl rfl rfl (modS (by decide))) rfl (el_cons (var_at rfl) rfl el_nil))) (by show 3 ≤ 1000000; decide)) rfl rfl e0) rfl) rfl]
  unfold tLplanned_0
  rw [sqR (ex_ret (ev_tup (xs := [.str (T (rest st % 2) (st.1.1 % 2) st.2.1).1, .int (if two = false ∨ rest st = 1 then 1 else (T (rest st % 2) (st.1.1 % 2) st.2.1).2)]) (el_cons (var_at rfl) rfl (el_cons (many_ite S _ _ (rest st) _ rfl rfl rfl) rfl el_nil)) (by show 2 ≤ 1000000; decide)))]
  rfl
theorem keys12_ok : ∀ k ∈ keys12, (k.1 = 0 ∨ k.1 = 1) ∧ (k.2.1 = 0 ∨ k.2.1 = 1) ∧ okL k.2.2 := by
  intro k h
  unfold keys12 at h
  simp only [List.mem_cons, List.mem_nil_iff, or_false] at h
  unfold okL
  rcases h with rfl | rfl | rfl | rfl | rfl | rfl | rfl | rfl | rfl | rfl | rfl | rfl <;> simp
/-- a plan made -/
theorem s_Plan (hT : okTb T) : callN L.tab (j + 5) 15 [.dct (tabD T)] S = .ok (.own (.ins 7 [.dct (tabD T)])) S := by
  show runFd L.tab (callN L.tab (j + 4)) fPlan_init [.dct (tabD T)] S = _
  rw [run_ctor (c := 7) rfl rfl]
  show outK (exT _ _ tPlan_init_6 [.own (.ins 7 []), .val (.dct (tabD T)), .un, .un] S) = _
  unfold tPlan_init_6
  rw [sq (ex_asg (d := .lst (keys12.map k3D)) (ev_call (ds := []) rfl (s_all_keys (j + 3) S)) rfl rfl) rfl]
  show outK (exT _ _ tPlan_init_5 [.own (.ins 7 []), .val (.dct (tabD T)), .val (.lst (keys12.map k3D)), .un] S) = _
  unfold tPlan_init_5
  have c1 : evE L.tab (callN L.tab (j + 4)) (.or (.not (.isi 5 (.var 1))) (.or (.cmp .ne (.len (.var 1)) (.len (.var 2))) (.not (.blt 2 (.compN [3] [3] (.keys (.var 1)) (.cst (.bl true)) .nil (.call 14 (.cons (.var 3) .nil))))))) [.own (.ins 7 []), .val (.dct (tabD T)), .val (.lst (keys12.map k3D)), .un] S = .ok (.val (.bl false)) S := by kernel_rfl
  rw [sq (S1 := S) (ρ1 := [.own (.ins 7 []), .val (.dct (tabD T)), .val (.lst (keys12.map k3D)), .un]) (by rw [ex_iteF c1, exT]) rfl]
  unfold tPlan_init_4
  obtain ⟨ρ', S', h, x3, p3, rfl, rfl⟩ := for_at (f := stepF L.tab (callN L.tab (j + 4)) [3] tPlan_init_2) (fun k ρ S' => ∃ x3, plainS x3 = true ∧ S' = S ∧ ρ = [.own (.ins 7 []), .val (.dct (tabD T)), .val (.lst (keys12.map k3D)), x3])
    (keys12.map k3D) 0 (ρ := [.own (.ins 7 []), .val (.dct (tabD T)), .val (.lst (keys12.map k3D)), .un]) (S := S) (fun i x ρ S' hx hI => by
      obtain ⟨x3, p3, rfl, rfl⟩ := hI
      obtain ⟨k, hk, rfl⟩ := at_map hx
      obtain ⟨k1, k2, k3⟩ := keys12_ok k (List.mem_of_getElem? hk)
      refine ⟨[.own (.ins 7 []), .val (.dct (tabD T)), .val (.lst (keys12.map k3D)), .val (k3D k)], S', ?_, .val (k3D k), rfl, rfl, rfl⟩
      show exT L.tab (callN L.tab (j + 4)) tPlan_init_2 [.own (.ins 7 []), .val (.dct (tabD T)), .val (.lst (keys12.map k3D)), .val (k3D k)] S' = _
      unfold tPlan_init_2
      have e := s_is_move (j + 1) S' (T k.1 k.2.1 k.2.2) (hT _ _ _ k1 k2 k3)
      have c := ev_not (ev_call (X := L.tab) (C := callN L.tab (j + 4)) (es := .cons (.idx (.var 1) (.var 3)) .nil) (ρ := [.own (.ins 7 []), .val (.dct (tabD T)), .val (.lst (keys12.map k3D)), .val (k3D k)]) (el_cons (ev_idx (x := .dct (tabD T)) (ra := .val (.dct (tabD T))) (rb := .val (k3D k)) rfl rfl rfl rfl (tab_idx T k1 k2 k3)) rfl el_nil) e)
      exact sq (by rw [ex_iteF c, exT]) (by rw [exT])) ⟨.un, rfl, rfl, rfl⟩
  rw [sq (ex_for (ev_seqF (r := .val (.lst (keys12.map k3D))) (d := .lst (keys12.map k3D)) rfl rfl rfl) rfl rfl h) rfl]
  unfold tPlan_init_3
  have cd : evE L.tab (callN L.tab (j + 4)) (.compD [3] [3] (.seq (.var 2)) (.cst (.bl true)) .nil (.var 3) (.idx (.var 1) (.var 3))) [.own (.ins 7 []), .val (.dct (tabD T)), .val (.lst (keys12.map k3D)), x3] S' = .ok (.own (.dct (tabD T))) S' := by kernel_rfl
  rw [sq (ex_setFO (k := 0) (d := .dct (tabD T)) (ds := []) cd rfl rfl rfl cl_Plan) rfl]
  rfl
end
/-! ### a drawn table -/
section
variable (j : Nat) {two : Bool}
def okS (s : Str) : Prop := s = "left" ∨ s = "right"
theorem two_sides {r : Int} (h0 : 0 ≤ r) (h1 : r < 2) : ∃ s : Str, idxop (.lst [.str "left", .str "right"]) (.int r) = some (.str s) ∧ okS s := by
  obtain rfl | rfl : r = 0 ∨ r = 1 := by omega
  · exact ⟨_, rfl, .inl rfl⟩
  · exact ⟨_, rfl, .inr rfl⟩
/-- the four sides -/
theorem four_loop (ρ : REnv) (h0 : (wipeE ρ [9])[0]? = some (.val (.obj 0))) (h5 : (wipeE ρ [9])[5]? = some (.val (.lst [.str "left", .str "right"]))) : ∀ (xs : List D) (ys : List Str) {S : Store}, IsRow S → ys.length + xs.length < 1000 → ∃ S' zs, IsRow S' ∧ Same S S' ∧ zs.length = xs.length ∧ (∀ z ∈ zs, okS z) ∧
    itLoop (compF L.tab (callN L.tab (j + 1)) [9] [9] (.cst (.bl true)) .nil (.idx (.var 5) (.call 32 (.cons (.var 0) (.cons (.cst (.int 2)) .nil)))) ρ) xs S (.lst (ys.map D.str)) = .ok (.lst ((ys ++ zs).map D.str)) S'
  | [], ys, S, h, _ => ⟨S, [], h, Same.refl S, rfl, fun z hz => (nomatch hz), by rw [List.append_nil]; rfl⟩
  | x :: xs, ys, S, h, hl => by
    rw [List.length_cons] at hl
    obtain ⟨S1, r, r1, s1, q1, q2, e⟩ := s_pickR j h 2 (by decide) (by decide)
    obtain ⟨z, ez, oz⟩ := two_sides q1 q2
    obtain ⟨S2, zs, r2, s2, l2, o2, e2⟩ := four_loop ρ h0 h5 xs (ys ++ [z]) r1 (by simp; omega)
    refine ⟨S2, z :: zs, r2, s1.trans s2, by simp [l2], fun w hw => (List.mem_cons.mp hw).elim (fun e => e ▸ oz) (o2 w), ?_⟩
    have g : ∀ (i : Nat) (v : Sl), i ≠ 9 → (wipeE ρ [9])[i]? = some v → ((wipeE ρ [9]).set 9 (.val x))[i]? = some v := fun i v hi hv => by rw [List.getElem?_set_ne (fun e => hi e.symm)]; exact hv
    have t := comp_turn (X := L.tab) (C := callN L.tab (j + 1)) (own := [9]) (i := 9) (elt := .idx (.var 5) (.call 32 (.cons (.var 0) (.cons (.cst (.int 2)) .nil)))) (ρ := ρ) (S := S) (S2 := S1) (x := x) (d := .str z) (ys := ys.map D.str) (r := .val (.str z))
      (ev_idx (ra := .val (.lst [.str "left", .str "right"])) (var_at (g 5 _ (by decide) h5)) (ev_call (ds := [.obj 0, .int 2]) (el_cons (var_at (g 0 _ (by decide) h0)) rfl (el_cons ev_cst rfl el_nil)) e) rfl rfl ez) rfl (by rw [List.length_map]; show _ < 1000000; omega)
    rw [itLoop, t, Out.bind_ok, show ys.map D.str ++ [D.str z] = (ys ++ [z]).map D.str by rw [List.map_append]; rfl, e2, List.append_assoc]
    rfl
abbrev taE (two : Bool) (most : Int) (t : Int) (fs : List Str) (x3 : Sl) (vs : List Mv) (x8 : Sl) : REnv := [.val (.obj 0), .val (.str (rl two)), .val (.int most), x3, .val (.int t), .val (.lst [.str "left", .str "right"]), .own (.dct (partD vs)), .val (.lst (fs.map D.str)), x8, .un]
theorem four_at {fs : List Str} (hf : fs.length = 4) (ho : ∀ s ∈ fs, okS s) {k : Int × Int × Str} (h1 : k.1 = 0 ∨ k.1 = 1) (h2 : k.2.1 = 0 ∨ k.2.1 = 1) : ∃ s, idxop (.lst (fs.map D.str)) (.int (2 * k.1 + k.2.1)) = some (.str s) ∧ okS s := by
  obtain ⟨d, hd, e⟩ := at_mem (xs := fs.map D.str) (i := 2 * k.1 + k.2.1) (by omega) (by rw [List.length_map]; omega)
  obtain ⟨s, hs, rfl⟩ := List.mem_map.mp hd
  exact ⟨s, e, ho s hs⟩
/-- what a turn does of the side -/
theorem side_ite (C : Calls) {S : Store} {most t c : Int} {fs : List Str} {k : Int × Int × Str} {vs : List Mv} {s : Str} {tb : R.T} (hs : okS s)
    (hb : ∃ s', okS s' ∧ exT L.tab C tb (taE two most t fs (.val (k3D k)) vs (.val (.str s))) S = .nx (taE two most t fs (.val (k3D k)) vs (.val (.str s'))) S) :
    ∃ s', okS s' ∧ exT L.tab C (.ite (.cmp .eq (.var 4) (.cst (.int c))) tb .skip) (taE two most t fs (.val (k3D k)) vs (.val (.str s))) S = .nx (taE two most t fs (.val (k3D k)) vs (.val (.str s'))) S := by
  have cc : evE L.tab C (.cmp .eq (.var 4) (.cst (.int c))) (taE two most t fs (.val (k3D k)) vs (.val (.str s))) S = .ok (.val (.bl (decide (t = c)))) S := ev_cmp (var_at rfl) ev_cst rfl rfl (cmp_eqI _ _)
  by_cases h : t = c
  · rw [decide_eq_true h] at cc
    obtain ⟨s', o', e⟩ := hb
    exact ⟨s', o', by rw [ex_iteT cc]; exact e⟩
  · rw [decide_eq_false h] at cc
    exact ⟨s, hs, by rw [ex_iteF cc, exT]⟩
theorem ok_str {x : Str} (h : okL x) : PyData.strOk x = true := by
  unfold okL at h
  rcases h with rfl | rfl | rfl <;> decide +kernel
theorem lr_cmp {x y : Str} (hx : okL x) (hy : okL y) : cmpop .eq (.str x) (.str y) = some (x == y) := eq_str (ok_str hx) (ok_str hy)
/-- one entry -/
theorem table_turn {S : Store} (h : IsRow S) {most t : Int} (hm : most = 1 ∨ most = 2) {fs : List Str} (hf : fs.length = 4) (ho : ∀ s ∈ fs, okS s) {vs : List Mv} (hv : vs.length < 12) {k : Int × Int × Str} (hk : keys12[vs.length]? = some k) (x8 : Sl) (p8 : plainS x8 = true) :
    ∃ S' m s, IsRow S' ∧ Same S S' ∧ okM m ∧ exT L.tab (callN L.tab (j + 1)) tLtable_9 (taE two most t fs (.val (k3D k)) vs x8) S = .nx (taE two most t fs (.val (k3D k)) (vs ++ [m]) (.val (.str s))) S' := by
  obtain ⟨k1, k2, k3⟩ := keys12_ok k (List.mem_of_getElem? hk)
  obtain ⟨S1, r, r1, s1, q1, q2, e1⟩ := s_pickR j h 2 (by decide) (by decide)
  obtain ⟨z0, ez0, o0⟩ := two_sides q1 q2
  have f0 : exT L.tab (callN L.tab (j + 1)) (.asg 8 (.idx (.var 5) (.call 32 (.cons (.var 0) (.cons (.cst (.int 2)) .nil))))) (taE two most t fs (.val (k3D k)) vs x8) S = .nx (taE two most t fs (.val (k3D k)) vs (.val (.str z0))) S1 :=
    ex_asg (ev_idx (ra := .val (.lst [.str "left", .str "right"])) (var_at rfl) (ev_call (ds := [.obj 0, .int 2]) rfl e1) rfl rfl ez0) rfl (by simp only [taE, exT, evE, evL, evI, evM, Out.bind_ok, Out.thn_ok, Out.bind_exc, Out.thn_exc, Out.nox, OutS.thn_nx, OutS.thn_rt, OutS.thn_exc, outF, List.getElem?_cons_zero, List.getElem?_cons_succ, List.getElem?_nil, vw_int, vw_bl, vw_non, vw_str, vw_tup, vw_lst, vw_dct, vw_ins, vw_scr, vw_obj, vw_own, vw_tmp, d_lst, d_dct, d_ins, fz_val, fz_own, lk_val, lk_own, lk_tmp, sq_tup, sq_lst, vw_sp, vw_mv, vw_row, List.all_cons, List.all_nil, free1_eq, plainS_val, plainS_un, plainS_lst, plainS_dct, Option.getD_some, notIns, putAll, putM, put, putT, List.map_cons, List.map_nil, List.set_cons_zero, List.set_cons_succ, List.length_cons, List.length_nil, List.nil_append, List.cons_append, Bool.and_self, Bool.and_true, Bool.true_and, Bool.and_false, Bool.false_and, Bool.not_true, Bool.not_false, if_true, ite_true, ite_false, beq_self_eq_true, Option.bind_some, Option.map_some, Nat.zero_add, Nat.reduceAdd, Nat.reduceBEq, Nat.reduceLeDiff, Nat.reduceLT, Nat.reduceEqDiff, decide_true, decide_false, I.stays, vI, vB, reduceIte, Bool.false_eq_true, Bool.true_eq_false, lim, b_addI, b_subI, cmpop_lt, cmpop_le, cmpop_gt, cmpop_ge, cmpop_eq, cmpop_ne, isNon, Bool.bne_true, Bool.bne_false, bne_false2, bne_true2, p8])
  obtain ⟨z1, o1, f1⟩ := side_ite (two := two) (most := most) (t := t) (c := 1) (fs := fs) (k := k) (vs := vs) (tb := tLtable_0) (callN L.tab (j + 1)) (S := S1) o0 (by
    obtain ⟨z, ez, oz⟩ := four_at hf ho k1 k2
    refine ⟨z, oz, ?_⟩
    unfold tLtable_0
    exact sq (ex_asg (ev_idx (ra := .val (.lst (fs.map D.str))) (rb := .val (.int (2 * k.1 + k.2.1))) (var_at rfl) (ev_bin (r := .val (.int (2 * k.1 + k.2.1))) (ev_bin (r := .val (.int (2 * k.1))) ev_cst (ev_idx (x := k3D k) (y := .int 0) (d := .int k.1) (var_at rfl) ev_cst rfl rfl rfl) rfl rfl rfl) (ev_idx (x := k3D k) (y := .int 1) (d := .int k.2.1) (var_at rfl) ev_cst rfl rfl rfl) rfl rfl rfl) rfl rfl ez) rfl rfl) (by rw [exT]; rfl))
  have third : ∀ (y : Str) (z : Str), okL y → evE L.tab (callN L.tab (j + 1)) (.cmp .eq (.idx (.var 3) (.cst (.int 2))) (.cst (.str y))) (taE two most t fs (.val (k3D k)) vs (.val (.str z))) S1 = .ok (.val (.bl (k.2.2 == y))) S1 := fun y z hy =>
    ev_cmp (ev_idx (x := k3D k) (y := .int 2) (d := .str k.2.2) (var_at rfl) ev_cst rfl rfl rfl) ev_cst rfl rfl (lr_cmp k3 hy)
  have pickS : ∀ (y z : Str), okL y → ∃ z', okS z' ∧ exT L.tab (callN L.tab (j + 1)) (.seq (.asg 8 (.ite (.cmp .eq (.idx (.var 3) (.cst (.int 2))) (.cst (.str y))) (.cst (.str "right")) (.cst (.str "left")))) .skip) (taE two most t fs (.val (k3D k)) vs (.val (.str z))) S1 = .nx (taE two most t fs (.val (k3D k)) vs (.val (.str z'))) S1 := fun y z hy => by
    have c := third y z hy
    cases q : k.2.2 == y with
    | true =>
      rw [q] at c
      exact ⟨"right", .inr rfl, sq (ex_asg (ev_iteT c ev_cst) rfl rfl) (by rw [exT]; rfl)⟩
    | false =>
      rw [q] at c
      exact ⟨"left", .inl rfl, sq (ex_asg (ev_iteF c ev_cst) rfl rfl) (by rw [exT]; rfl)⟩
  obtain ⟨z2, o2, f2⟩ := side_ite (two := two) (most := most) (t := t) (c := 2) (fs := fs) (k := k) (vs := vs) (tb := tLtable_1) (callN L.tab (j + 1)) (S := S1) o1 (pickS "left" z1 (.inl rfl))
  obtain ⟨z3, o3, f3⟩ := side_ite (two := two) (most := most) (t := t) (c := 3) (fs := fs) (k := k) (vs := vs) (tb := tLtable_2) (callN L.tab (j + 1)) (S := S1) o2 (pickS "right" z2 (.inr (.inr rfl)))
  obtain ⟨z4, o4, f4⟩ := side_ite (two := two) (most := most) (t := t) (c := 4) (fs := fs) (k := k) (vs := vs) (tb := tLtable_3) (callN L.tab (j + 1)) (S := S1) o3 (by
    obtain ⟨z, ez, oz⟩ := four_at hf ho (k := (0, 0, k.2.2)) (.inl rfl) (.inl rfl)
    refine ⟨z, oz, ?_⟩
    unfold tLtable_3
    exact sq (ex_asg (ev_idx (ra := .val (.lst (fs.map D.str))) (rb := .val (.int 0)) (var_at rfl) ev_cst rfl rfl ez) rfl rfl) (by rw [exT]; rfl))
  obtain ⟨S2, r', r2, s2, q3, q4, e2⟩ := s_pickR j r1 most (by omega) (by omega)
  have okm : okM (z4, 1 + r') := ⟨o4, by show 1 + r' = 1 ∨ 1 + r' = 2; omega⟩
  refine ⟨S2, (z4, 1 + r'), z4, r2, s1.trans s2, okm, ?_⟩
  unfold tLtable_9
  refine sq f0 ?_
  unfold tLtable_8
  refine sq f1 ?_
  unfold tLtable_7
  refine sq f2 ?_
  unfold tLtable_6
  refine sq f3 ?_
  unfold tLtable_5
  refine sq f4 ?_
  unfold tLtable_4
  refine sq (ex_setIO (r := .val (mvD (z4, 1 + r'))) (ob := .dct (partD vs)) (kd := k3D k) (ev_tup (el_cons (var_at rfl) rfl (el_cons (ev_bin (r := .val (.int (1 + r'))) ev_cst (ev_call (ds := [.obj 0, .int most]) rfl e2) rfl rfl rfl) rfl el_nil)) (by show 2 ≤ 1000000; decide)) rfl rfl (var_at rfl) (part_put (z4, 1 + r') vs hv k hk)) ?_
  rw [exT]
  rfl
theorem ofVs_ok {vs : List Mv} (h : ∀ m ∈ vs, okM m) : okTb (ofVs vs) := fun r l s _ _ _ => by
  have : ∀ n : Nat, okM (vs.getD n (("left" : Str), 1)) := fun n => by
    rw [List.getD_eq_getElem?_getD]
    cases q : vs[n]? with
    | none => exact ⟨.inl rfl, .inl rfl⟩
    | some m => exact h m (List.mem_of_getElem? q)
  exact this _
theorem two_eq (two : Bool) : cmpop .eq (.str (rl two)) (.str "two") = some two := by cases two <;> kernel_rfl
/-- a table drawn -/
theorem s_Ltable {S : Store} (h : IsRow S) (two : Bool) : ∃ S' T, IsRow S' ∧ Same S S' ∧ okTb T ∧ callN L.tab (j + 2) 34 [.obj 0, .str (rl two)] S = .ok (.own (.dct (tabD T))) S' := by
  obtain ⟨S1, t, r1, s1, q1, q2, e1⟩ := s_pickR j h 6 (by decide) (by decide)
  have f14 : exT L.tab (callN L.tab (j + 1)) (.par [4, 5] (.cons (.call 32 (.cons (.var 0) (.cons (.cst (.int 6)) .nil))) (.cons (.lst (.cons (.cst (.str "left")) (.cons (.cst (.str "right")) .nil))) .nil))) [.val (.obj 0), .val (.str (rl two)), .un, .un, .un, .un, .un, .un, .un, .un] S = .nx [.val (.obj 0), .val (.str (rl two)), .un, .un, .val (.int t), .val (.lst [.str "left", .str "right"]), .un, .un, .un, .un] S1 :=
    ex_par (ds := [.int t, .lst [.str "left", .str "right"]]) (el_cons (ev_call (ds := [.obj 0, .int 6]) rfl e1) rfl (el_cons (r := .own (.lst [.str "left", .str "right"])) rfl rfl el_nil)) rfl rfl
  have c13 : evE L.tab (callN L.tab (j + 1)) (.cmp .eq (.var 1) (.cst (.str "two"))) [.val (.obj 0), .val (.str (rl two)), .un, .un, .val (.int t), .val (.lst [.str "left", .str "right"]), .un, .un, .un, .un] S1 = .ok (.val (.bl two)) S1 := ev_cmp (var_at rfl) ev_cst rfl rfl (two_eq two)
  obtain ⟨S2, most, r2, s2, hm, f13⟩ : ∃ S2 most, IsRow S2 ∧ Same S1 S2 ∧ (most = 1 ∨ most = 2) ∧ exT L.tab (callN L.tab (j + 1)) (.asg 2 (.ite (.or (.cmp .eq (.var 1) (.cst (.str "two"))) (.cmp .eq (.call 32 (.cons (.var 0) (.cons (.cst (.int 4)) .nil))) (.cst (.int 0)))) (.cst (.int 2)) (.cst (.int 1)))) [.val (.obj 0), .val (.str (rl two)), .un, .un, .val (.int t), .val (.lst [.str "left", .str "right"]), .un, .un, .un, .un] S1 = .nx [.val (.obj 0), .val (.str (rl two)), .val (.int most), .un, .val (.int t), .val (.lst [.str "left", .str "right"]), .un, .un, .un, .un] S2 := by
    cases two with
    | true => exact ⟨S1, 2, r1, Same.refl _, .inr rfl, ex_asg (ev_iteT (by rw [evE, c13]; rfl) ev_cst) rfl rfl⟩
    | false =>
      obtain ⟨S2, r, r2, s2, q3, q4, e2⟩ := s_pickR j r1 4 (by decide) (by decide)
      have c : evE L.tab (callN L.tab (j + 1)) (.cmp .eq (.call 32 (.cons (.var 0) (.cons (.cst (.int 4)) .nil))) (.cst (.int 0))) [.val (.obj 0), .val (.str (rl false)), .un, .un, .val (.int t), .val (.lst [.str "left", .str "right"]), .un, .un, .un, .un] S1 = .ok (.val (.bl (decide (r = 0)))) S2 := ev_cmp (ev_call (ds := [.obj 0, .int 4]) rfl e2) ev_cst rfl rfl (cmp_eqI _ _)
      by_cases q : r = 0
      · rw [decide_eq_true q] at c
        exact ⟨S2, 2, r2, s2, .inr rfl, ex_asg (ev_iteT (ev_orF c13 c) ev_cst) rfl rfl⟩
      · rw [decide_eq_false q] at c
        exact ⟨S2, 1, r2, s2, .inl rfl, ex_asg (ev_iteF (ev_orF c13 c) ev_cst) rfl rfl⟩
  obtain ⟨S3, fs, r3, s3, hf, ho, e3⟩ := four_loop j [.val (.obj 0), .val (.str (rl two)), .val (.int most), .un, .val (.int t), .val (.lst [.str "left", .str "right"]), .un, .un, .un, .un] rfl rfl ((List.range (4 : Int).toNat).map fun (i : Nat) => D.int (0 + i)) [] r2 (by decide)
  have e4 := ev_compN (X := L.tab) (C := callN L.tab (j + 1)) (own := [9]) (tg := [9]) (it := .rng1 (.cst (.int 4))) (c := .cst (.bl true)) (cs := .nil) (elt := .idx (.var 5) (.call 32 (.cons (.var 0) (.cons (.cst (.int 2)) .nil)))) (ρ := [.val (.obj 0), .val (.str (rl two)), .val (.int most), .un, .val (.int t), .val (.lst [.str "left", .str "right"]), .un, .un, .un, .un]) (S := S2) (ev_rng1 (z := 4) ev_cst (by decide) (by decide)) (by decide) e3
  rw [List.nil_append] at e4
  have f12 : exT L.tab (callN L.tab (j + 1)) (.parM [(6, true), (7, false)] (.cons .dct0 (.cons (.compN [9] [9] (.rng1 (.cst (.int 4))) (.cst (.bl true)) .nil (.idx (.var 5) (.call 32 (.cons (.var 0) (.cons (.cst (.int 2)) .nil))))) .nil))) [.val (.obj 0), .val (.str (rl two)), .val (.int most), .un, .val (.int t), .val (.lst [.str "left", .str "right"]), .un, .un, .un, .un] S2 = .nx (taE two most t fs .un [] .un) S3 :=
    ex_parM2 (s1 := .own (.dct [])) (s2 := .val (.lst (fs.map D.str))) (em_own (o := .dct []) rfl rfl (em_val e4 rfl em_nil)) rfl (by decide)
  obtain ⟨ρ', S', hl, vs, x3, x8, lv, ov, rv, sv, p3, p8, rfl⟩ := for_at (f := stepF L.tab (callN L.tab (j + 1)) [3] tLtable_9) (fun k ρ S' => ∃ vs x3 x8, vs.length = k ∧ (∀ m ∈ vs, okM m) ∧ IsRow S' ∧ Same S3 S' ∧ plainS x3 = true ∧ plainS x8 = true ∧ ρ = taE two most t fs x3 vs x8)
    (keys12.map k3D) 0 (ρ := taE two most t fs .un [] .un) (S := S3) (fun i x ρ S' hx hI => by
      obtain ⟨vs, x3, x8, lv, ov, rv, sv, p3, p8, rfl⟩ := hI
      obtain ⟨k, hk, rfl⟩ := at_map hx
      have hi : i < 12 := (List.getElem?_eq_some_iff.mp hk).1
      rw [Nat.zero_add] at lv
      subst lv
      obtain ⟨S2, m, s, r2, s2, om, e⟩ := table_turn (two := two) j rv hm hf ho hi hk x8 p8 (t := t)
      refine ⟨_, _, e, vs ++ [m], _, _, by simp, fun z hz => ?_, r2, sv.trans s2, rfl, rfl, rfl⟩
      rcases List.mem_append.mp hz with hz | hz
      · exact ov z hz
      · rw [List.mem_singleton] at hz
        exact hz ▸ om) ⟨[], .un, .un, rfl, fun m hm => (nomatch hm), r3, Same.refl _, rfl, rfl, rfl⟩
  have l12 : vs.length = 12 := lv
  refine ⟨S', ofVs vs, rv, (s1.trans s2).trans (s3.trans sv), ofVs_ok ov, ?_⟩
  show runFd L.tab (callN L.tab (j + 1)) fLtable [.obj 0, .str (rl two)] S = _
  rw [run_def rfl rfl]
  show outF (exT _ _ tLtable_14 [.val (.obj 0), .val (.str (rl two)), .un, .un, .un, .un, .un, .un, .un, .un] S) = _
  unfold tLtable_14
  rw [sq f14 rfl]
  unfold tLtable_13
  rw [sq f13 rfl]
  unfold tLtable_12
  rw [sq f12 rfl]
  unfold tLtable_11
  rw [sq (ex_for (ev_seqF (r := .val (.lst (keys12.map k3D))) (ev_call (ds := []) el_nil (s_Lkeys j S3)) rfl rfl) rfl rfl hl) rfl]
  unfold tLtable_10
  rw [← part_all l12]
  rfl
end
end K06

set_option maxHeartbeats 4000000
namespace K06
open PySem R
/-! ### what a plan brings -/
section
variable (j : Nat) (S : Store) {two : Bool} {T : Tb3} {ws : List Int}
theorem cl_Br : L.tab.cls 8 = true := rfl
theorem gl_NONE : L.tab.gl 5 = some (.str "none") := rfl
abbrev brD (two : Bool) (T : Tb3) (ws : List Int) (n : Nat) : D := .ins 8 [.ins 7 [.dct (tabD T)], .str (rl two), rowD ws, .obj n]
abbrev stpE (two : Bool) (T : Tb3) (ws : List Int) (n : Nat) (st : Sg) (ms : List Mv) (ds : List D) (x7 x8 x9 x10 : Sl) : REnv := [.val (brD two T ws n), .val (spD st.1), .val (.str st.2.1), .val (.bl st.2.2), .val (.int (rest st)), .val (.lst (ms.map mvD)), .own (.lst ds), x7, x8, x9, x10]
theorem s_steps (hT : okTb T) (n : Nat) (st : Sg) (h0 : 0 ≤ st.1.1) (h1 : st.1.1 ≤ st.1.2) (h2 : st.1.2 ≤ ws.length) (ho : okL st.2.1) :
    callN L.tab (j + 2) 25 [brD two T ws n, spD st.1, .str st.2.1, .bl st.2.2] S = .ok (.own (.lst ((mvA two T st).map (stpD ws st)))) S := by
  show runFd L.tab (callN L.tab (j + 1)) fBringing_steps [brD two T ws n, spD st.1, .str st.2.1, .bl st.2.2] S = _
  rw [run_def rfl rfl]
  show outF (exT _ _ tBringing_steps_9 [.val (brD two T ws n), .val (spD st.1), .val (.str st.2.1), .val (.bl st.2.2), .un, .un, .un, .un, .un, .un, .un] S) = _
  unfold tBringing_steps_9
  rw [sq (S1 := S) (ρ1 := [.val (brD two T ws n), .val (spD st.1), .val (.str st.2.1), .val (.bl st.2.2), .val (.int (rest st)), .un, .un, .un, .un, .un, .un]) (ex_asg (ev_bin (r := .val (.int (rest st))) (ev_idx (x := spD st.1) (y := .int 1) (d := .int st.1.2) (var_at rfl) ev_cst rfl rfl rfl) (ev_idx (x := spD st.1) (y := .int 0) (d := .int st.1.1) (var_at rfl) ev_cst rfl rfl rfl) rfl rfl rfl) rfl rfl) rfl]
  unfold tBringing_steps_8
  have e8 := s_moves_of j S two (rest st)
  rw [sq (S1 := S) (ρ1 := [.val (brD two T ws n), .val (spD st.1), .val (.str st.2.1), .val (.bl st.2.2), .val (.int (rest st)), .val (.lst ((mvs two (rest st)).map mvD)), .un, .un, .un, .un, .un]) (ex_asg (ev_call (ds := [.str (rl two), .int (rest st)]) (el_cons (ev_fld (ds := [.ins 7 [.dct (tabD T)], .str (rl two), rowD ws, .obj n]) (var_at rfl) rfl cl_Br rfl) rfl (el_cons (var_at rfl) rfl el_nil)) e8) rfl rfl) rfl]
  unfold tBringing_steps_7
  have f7 : exT L.tab (callN L.tab (j + 1)) (.ite (.and (.var 3) (.cmp .gt (.var 4) (.cst (.int 0)))) tBringing_steps_0 .skip) [.val (brD two T ws n), .val (spD st.1), .val (.str st.2.1), .val (.bl st.2.2), .val (.int (rest st)), .val (.lst ((mvs two (rest st)).map mvD)), .un, .un, .un, .un, .un] S =
      .nx [.val (brD two T ws n), .val (spD st.1), .val (.str st.2.1), .val (.bl st.2.2), .val (.int (rest st)), .val (.lst ((mvA two T st).map mvD)), .un, .un, .un, .un, .un] S := by
    have ep := s_planned j S (two := two) hT st ho
    obtain ⟨s, t, own⟩ := st
    cases own with
    | false => rw [ex_iteF (ev_andF (var_at rfl)), exT]; rfl
    | true =>
      have c : evE L.tab (callN L.tab (j + 1)) (.cmp .gt (.var 4) (.cst (.int 0))) [.val (brD two T ws n), .val (spD s), .val (.str t), .val (.bl true), .val (.int (rest (s, t, true))), .val (.lst ((mvs two (rest (s, t, true))).map mvD)), .un, .un, .un, .un, .un] S = .ok (.val (.bl (decide (0 < rest (s, t, true))))) S := rfl
      by_cases q : 0 < rest (s, t, true)
      · rw [decide_eq_true q] at c
        rw [ex_iteT (ev_and (var_at rfl) c)]
        have hm : mvA two T (s, t, true) = [ownM two T (s, t, true)] := by
          unfold mvA
          rw [if_pos rfl, if_pos q]
        rw [hm]
        unfold tBringing_steps_0
        refine sq (ex_asg (r := .own (.lst [mvD (ownM two T (s, t, true))])) (ev_lst (el_cons (ev_call (ds := [.ins 7 [.dct (tabD T)], .str (rl two), .int (rest (s, t, true)), .int s.1, .str t]) (el_cons (ev_fld (ds := [.ins 7 [.dct (tabD T)], .str (rl two), rowD ws, .obj n]) (var_at rfl) rfl cl_Br rfl) rfl (el_cons (ev_fld (ds := [.ins 7 [.dct (tabD T)], .str (rl two), rowD ws, .obj n]) (var_at rfl) rfl cl_Br rfl) rfl (el_cons (var_at rfl) rfl (el_cons (ev_idx (x := spD s) (y := .int 0) (d := .int s.1) (var_at rfl) ev_cst rfl rfl rfl) rfl (el_cons (var_at rfl) rfl el_nil))))) ep) rfl el_nil) (by show 1 ≤ 1000000; decide)) rfl rfl) ?_
        rw [exT]
        rfl
      · rw [decide_eq_false q] at c
        rw [ex_iteF (ev_and (var_at rfl) c), exT]
        have hm : mvA two T (s, t, true) = [] := mvA_nil q
        have hm2 : mvs two (rest (s, t, true)) = [] := by unfold mvs; rw [if_neg q]
        rw [hm, hm2]
  rw [sq f7 rfl]
  unfold tBringing_steps_6
  rw [sq (S1 := S) (ρ1 := stpE two T ws n st (mvA two T st) [] .un .un .un .un) rfl rfl]
  unfold tBringing_steps_5
  obtain ⟨ρ', S', hl, x7, x8, x9, x10, p7, p8, p9, p10, rfl, rfl⟩ := for_at (f := stepF L.tab (callN L.tab (j + 1)) [7] tBringing_steps_3) (fun i ρ S' => ∃ x7 x8 x9 x10, plainS x7 = true ∧ plainS x8 = true ∧ plainS x9 = true ∧ plainS x10 = true ∧ S' = S ∧ ρ = stpE two T ws n st (mvA two T st) (((mvA two T st).take i).map (stpD ws st)) x7 x8 x9 x10)
    ((mvA two T st).map mvD) 0 (ρ := stpE two T ws n st (mvA two T st) [] .un .un .un .un) (S := S) (fun i x ρ S' hx hI => by
      obtain ⟨x7, x8, x9, x10, p7, p8, p9, p10, rfl, rfl⟩ := hI
      obtain ⟨m, hm, rfl⟩ := at_map hx
      have hmem : m ∈ mvA two T st := List.mem_of_getElem? hm
      obtain ⟨a1, a2, a3, a4⟩ := mvA_ok hT ho hmem
      obtain ⟨t1, t2, t3⟩ := tkn_in (s := st.1) (m := m) (by omega) a4
      have c3 := s_taken j S' st.1 m a1
      have c2 := s_worth_of j S' ws (tkn st.1 m) (by omega) t3 (by omega)
      rw [Nat.zero_add, take_at hm, List.map_append]
      refine ⟨_, S', ?_, .val (mvD m), .val (.int (gn ws (tkn st.1 m))), .val (spD (aft st.1 m)), .val (spD (tkn st.1 m)), rfl, rfl, rfl, rfl, rfl, rfl⟩
      show exT L.tab (callN L.tab (j + 1)) tBringing_steps_3 (stpE two T ws n st (mvA two T st) (((mvA two T st).take i).map (stpD ws st)) (.val (mvD m)) x8 x9 x10) S' = _
      unfold tBringing_steps_3
      refine sq (S1 := S') (ρ1 := stpE two T ws n st (mvA two T st) (((mvA two T st).take i).map (stpD ws st)) (.val (mvD m)) x8 (.val (spD (aft st.1 m))) (.val (spD (tkn st.1 m)))) (ex_tupl2 (ev_call (ds := [spD st.1, mvD m]) rfl c3) (by simp only [stpE, exT, evE, evL, evI, evM, Out.bind_ok, Out.thn_ok, Out.bind_exc, Out.thn_exc, Out.nox, OutS.thn_nx, OutS.thn_rt, OutS.thn_exc, outF, List.getElem?_cons_zero, List.getElem?_cons_succ, List.getElem?_nil, vw_int, vw_bl, vw_non, vw_str, vw_tup, vw_lst, vw_dct, vw_ins, vw_scr, vw_obj, vw_own, vw_tmp, d_lst, d_dct, d_ins, fz_val, fz_own, lk_val, lk_own, lk_tmp, sq_tup, sq_lst, vw_sp, vw_mv, vw_row, List.all_cons, List.all_nil, free1_eq, plainS_val, plainS_un, plainS_lst, plainS_dct, Option.getD_some, notIns, putAll, putM, put, putT, List.map_cons, List.map_nil, List.set_cons_zero, List.set_cons_succ, List.length_cons, List.length_nil, List.nil_append, List.cons_append, Bool.and_self, Bool.and_true, Bool.true_and, Bool.and_false, Bool.false_and, Bool.not_true, Bool.not_false, if_true, ite_true, ite_false, beq_self_eq_true, Option.bind_some, Option.map_some, Nat.zero_add, Nat.reduceAdd, Nat.reduceBEq, Nat.reduceLeDiff, Nat.reduceLT, Nat.reduceEqDiff, decide_true, decide_false, I.stays, vI, vB, reduceIte, Bool.false_eq_true, Bool.true_eq_false, lim, b_addI, b_subI, cmpop_lt, cmpop_le, cmpop_gt, cmpop_ge, cmpop_eq, cmpop_ne, isNon, Bool.bne_true, Bool.bne_false, bne_false2, bne_true2, p9, p10])) ?_
      unfold tBringing_steps_2
      refine sq (S1 := S') (ρ1 := stpE two T ws n st (mvA two T st) (((mvA two T st).take i).map (stpD ws st)) (.val (mvD m)) (.val (.int (gn ws (tkn st.1 m)))) (.val (spD (aft st.1 m))) (.val (spD (tkn st.1 m)))) (ex_asg (ev_call (ds := [rowD ws, spD (tkn st.1 m)]) (el_cons (ev_fld (ds := [.ins 7 [.dct (tabD T)], .str (rl two), rowD ws, .obj n]) (var_at rfl) rfl cl_Br rfl) rfl (el_cons (var_at rfl) rfl el_nil)) c2) rfl (by simp only [stpE, exT, evE, evL, evI, evM, Out.bind_ok, Out.thn_ok, Out.bind_exc, Out.thn_exc, Out.nox, OutS.thn_nx, OutS.thn_rt, OutS.thn_exc, outF, List.getElem?_cons_zero, List.getElem?_cons_succ, List.getElem?_nil, vw_int, vw_bl, vw_non, vw_str, vw_tup, vw_lst, vw_dct, vw_ins, vw_scr, vw_obj, vw_own, vw_tmp, d_lst, d_dct, d_ins, fz_val, fz_own, lk_val, lk_own, lk_tmp, sq_tup, sq_lst, vw_sp, vw_mv, vw_row, List.all_cons, List.all_nil, free1_eq, plainS_val, plainS_un, plainS_lst, plainS_dct, Option.getD_some, notIns, putAll, putM, put, putT, List.map_cons, List.map_nil, List.set_cons_zero, List.set_cons_succ, List.length_cons, List.length_nil, List.nil_append, List.cons_append, Bool.and_self, Bool.and_true, Bool.true_and, Bool.and_false, Bool.false_and, Bool.not_true, Bool.not_false, if_true, ite_true, ite_false, beq_self_eq_true, Option.bind_some, Option.map_some, Nat.zero_add, Nat.reduceAdd, Nat.reduceBEq, Nat.reduceLeDiff, Nat.reduceLT, Nat.reduceEqDiff, decide_true, decide_false, I.stays, vI, vB, reduceIte, Bool.false_eq_true, Bool.true_eq_false, lim, b_addI, b_subI, cmpop_lt, cmpop_le, cmpop_gt, cmpop_ge, cmpop_eq, cmpop_ne, isNon, Bool.bne_true, Bool.bne_false, bne_false2, bne_true2, p8])) ?_
      unfold tBringing_steps_1
      have hgl : ((((mvA two T st).take i).map (stpD ws st))).length < lim := by
        rw [List.length_map]
        have l1 : (mvA two T st).length ≤ 4 := by
          unfold mvA
          split
          · split <;> simp
          · exact mvs_len
        have : ((mvA two T st).take i).length ≤ (mvA two T st).length := List.length_take_le' ..
        show _ < 1000000
        omega
      refine sq (S1 := S') (ex_appO (d := stpD ws st m) (r := .val (stpD ws st m)) (xs := ((mvA two T st).take i).map (stpD ws st)) rfl ?_ rfl hgl) ?_
      · refine ev_tup (xs := [mvD m, .int (gnS ws st m), stD (aftS st m)]) (el_cons (var_at rfl) rfl (el_cons (S1 := S') (r := .val (.int (gnS ws st m))) ?_ rfl (el_cons (S1 := S') (r := .val (stD (aftS st m))) ?_ rfl el_nil))) (by show 3 ≤ 1000000; decide)
        · obtain ⟨s, t, own⟩ := st
          cases own with
          | false => exact ev_iteF (var_at rfl) (ev_neg (var_at rfl))
          | true => exact ev_iteT (var_at rfl) (var_at rfl)
        · refine ev_tup (xs := [spD (aftS st m).1, .str (aftS st m).2.1, .bl (aftS st m).2.2]) (el_cons (var_at rfl) rfl (el_cons (S1 := S') (r := .val (.str (aftS st m).2.1)) ?_ rfl (el_cons (ev_not (var_at rfl)) rfl el_nil))) (by show 3 ≤ 1000000; decide)
          obtain ⟨s, t, own⟩ := st
          cases own with
          | false => exact ev_iteF (var_at rfl) (ev_idx (x := mvD m) (y := .int 0) (d := .str m.1) (var_at rfl) ev_cst rfl rfl rfl)
          | true => exact ev_iteT (var_at rfl) rfl
      · rw [exT]
        rfl) ⟨.un, .un, .un, .un, rfl, rfl, rfl, rfl, rfl, rfl⟩
  rw [Nat.zero_add, List.length_map, List.take_length] at hl
  rw [sq (ex_for (ev_seqF (r := .val (.lst ((mvA two T st).map mvD))) (d := .lst ((mvA two T st).map mvD)) (var_at rfl) rfl rfl) rfl rfl hl) rfl]
  unfold tBringing_steps_4
  rfl
theorem min_of (C : Calls) (ρ : REnv) (ns : List Int) (h5 : ρ[5]? = some (.val (.lst (ns.map D.int)))) : evE L.tab C (.ite (.cmp .ne (.var 5) (.lst .nil)) (.blt 5 (.var 5)) (.cst (.int 0))) ρ S = .ok (.val (.int (minO ns))) S := by
  have e0 : cmpop .ne (.lst (ns.map D.int)) (.lst []) = some (!(ns.map D.int).isEmpty) := by
    rw [cmpop_ne, eq_nil (k := 0) (fun x hx => by obtain ⟨i, _, rfl⟩ := List.mem_map.mp hx; exact .int _ _) (by decide)]
    rfl
  have c := ev_cmp (X := L.tab) (C := C) (S := S) (ρ := ρ) (a := .var 5) (b := .lst .nil) (op := .ne) (ra := .val (.lst (ns.map D.int))) (rb := .own (.lst [])) (x := .lst (ns.map D.int)) (y := .lst []) (var_at h5) (ev_lst el_nil (Nat.zero_le _)) rfl rfl e0
  cases ns with
  | nil => exact ev_iteF c ev_cst
  | cons n ns => exact ev_iteT c (ev_blt (var_at h5) rfl (by show (minL ((n :: ns).map D.int)).map _ = _; rw [minL_int (by simp)]; rfl))
abbrev VM (ws : List Int) (two : Bool) (T : Tb3) : Sg → D := fun st => .int (V ws two T st)
abbrev leE (two : Bool) (T : Tb3) (ws : List Int) (n : Nat) (st : Sg) (x4 x5 x6 x7 x8 : Sl) : REnv := [.val (brD two T ws n), .val (spD st.1), .val (.str st.2.1), .val (.bl st.2.2), x4, x5, x6, x7, x8]
theorem s_least (hT : okTb T) (hn : ws.length ≤ 40) (n : Nat) (hS : n < S.length) : ∀ (k : Nat) (st : Sg) (kvs : List (D × D)), 0 ≤ st.1.1 → st.1.1 ≤ st.1.2 → st.1.2 ≤ ws.length → okL st.2.1 → (rest st).toNat ≤ k → Memo3 (VM ws two T) kvs →
    ∃ kvs', Memo3 (VM ws two T) kvs' ∧ callN L.tab (j + k + 3) 24 [brD two T ws n, spD st.1, .str st.2.1, .bl st.2.2] (S.set n (.dct kvs)) = .ok (.val (.int (V ws two T st))) (S.set n (.dct kvs'))
  | k, st, kvs, h0, h1, h2, ho, hk, hM => by
    have g : ∀ kvs : List (D × D), (S.set n (.dct kvs))[n]? = some (.dct kvs) := fun kvs => List.getElem?_set_self hS
    have fl : ∀ (kvs : List (D × D)) (ρ : REnv), ρ[0]? = some (.val (brD two T ws n)) → evE L.tab (callN L.tab (j + k + 2)) (.fld 8 3 (.var 0)) ρ (S.set n (.dct kvs)) = .ok (.val (.obj n)) (S.set n (.dct kvs)) := fun kvs ρ h => ev_fld (ds := [.ins 7 [.dct (tabD T)], .str (rl two), rowD ws, .obj n]) (var_at h) rfl cl_Br rfl
    have vw : ∀ kvs : List (D × D), (Rv.val (.obj n)).view (S.set n (.dct kvs)) = some (.dct kvs) := fun kvs => by rw [vw_obj, g]; rfl
    have body : ∃ kvs', Memo3 (VM ws two T) kvs' ∧ exT L.tab (callN L.tab (j + k + 2)) tBringing_least_3 (leE two T ws n st (.val (stD st)) .un .un .un .un) (S.set n (.dct kvs)) = .rt (.val (.int (V ws two T st))) (S.set n (.dct kvs')) := by
      unfold tBringing_least_3
      have c0 := ev_isinN (X := L.tab) (C := callN L.tab (j + k + 2)) (S := S.set n (.dct kvs)) (a := .var 4) (b := .fld 8 3 (.var 0)) (ρ := leE two T ws n st (.val (stD st)) .un .un .un .un) (var_at rfl) (fl kvs _ rfl) rfl (vw kvs) (isin_st kvs st)
      cases q : getD kvs (stKey st) with
      | some v =>
        have hv := hM.1 st v q
        subst hv
        have e2 := idx_st kvs st
        rw [q] at e2 c0
        refine ⟨kvs, hM, ?_⟩
        rw [sq (S1 := S.set n (.dct kvs)) (by rw [ex_iteF c0, exT]) rfl]
        unfold tBringing_least_2
        exact sqR (ex_ret (ev_idx (fl kvs _ rfl) (var_at rfl) (vw kvs) rfl e2))
      | none =>
        rw [q] at c0
        have es := s_steps (j + k) (S.set n (.dct kvs)) (two := two) hT n st h0 h1 h2 ho
        have l4 : (mvA two T st).length ≤ 4 := by
          unfold mvA
          split
          · split <;> simp
          · exact mvs_len
        obtain ⟨S', ⟨kvs', hM', rfl⟩, e5⟩ := it_mapS (f := compF L.tab (callN L.tab (j + k + 2)) [6, 7, 8] [6, 7, 8] (.cst (.bl true)) .nil (.bin .add (.var 7) (.meth 8 24 (.var 0) (.star (.var 8) .nil))) (leE two T ws n st (.val (stD st)) .un .un .un .un)) (h := stpD ws st) (g := fun m => D.int (gnS ws st m + V ws two T (aftS st m))) (fun S' => ∃ kvs', Memo3 (VM ws two T) kvs' ∧ S' = S.set n (.dct kvs'))
          (mvA two T st) [] (S.set n (.dct kvs)) ⟨kvs, hM, rfl⟩ (by show 0 + _ < 1000000; omega) (fun m hm ys S' hJ hy => by
            obtain ⟨kvs1, hM1, rfl⟩ := hJ
            obtain ⟨a1, a2, a3, a4⟩ := mvA_ok hT ho hm
            obtain ⟨b1, b2, b3⟩ := aft_in (s := st.1) (m := m) (by omega) a4
            have ar := aftS_rest st m
            cases k with
            | zero => omega
            | succ k =>
              obtain ⟨kvs2, hM2, e⟩ := s_least hT hn n hS k (aftS st m) kvs1 (by show 0 ≤ (aft st.1 m).1; omega) b3 (by show (aft st.1 m).2 ≤ _; omega) (aftS_last a1) (by omega) hM1
              refine ⟨_, ⟨kvs2, hM2, rfl⟩, comp_turnG (ρ1 := leE two T ws n st (.val (stD st)) .un (.val (mvD m)) (.val (.int (gnS ws st m))) (.val (stD (aftS st m)))) rfl (ev_bin (var_at rfl) (ev_methS (d := brD two T ws n) (var_at rfl) rfl (el_star (r := .val (stD (aftS st m))) (var_at rfl) rfl el_nil) e) rfl rfl rfl) rfl hy⟩)
        rw [List.nil_append] at e5
        have hV := V_eq (ws := ws) (two := two) hT ho
        have e6 := min_of (S.set n (.dct kvs')) (callN L.tab (j + k + 2)) (leE two T ws n st (.val (stD st)) (.val (.lst ((mvA two T st).map fun m => D.int (gnS ws st m + V ws two T (aftS st m))))) .un .un .un) ((mvA two T st).map fun m => gnS ws st m + V ws two T (aftS st m)) (by rw [List.map_map]; rfl)
        rw [← hV] at e6
        have hlen := hM'.len
        have e7 := set_st kvs' st (.int (V ws two T st)) (by omega)
        refine ⟨putD kvs' (stKey st) (stD st) (.int (V ws two T st)), hM'.put h0 h1 (by omega) ho, ?_⟩
        refine sq (S1 := S.set n (.dct (putD kvs' (stKey st) (stD st) (.int (V ws two T st))))) (ρ1 := leE two T ws n st (.val (stD st)) (.val (.lst ((mvA two T st).map fun m => D.int (gnS ws st m + V ws two T (aftS st m))))) .un .un .un) ?_ ?_
        · rw [ex_iteT c0]
          unfold tBringing_least_1
          refine sq (ex_asg (d := .lst ((mvA two T st).map fun m => D.int (gnS ws st m + V ws two T (aftS st m)))) (ev_compN (ev_seqI (r := .own (.lst ((mvA two T st).map (stpD ws st)))) (ev_meth (d := brD two T ws n) (ds := [spD st.1, .str st.2.1, .bl st.2.2]) (var_at rfl) rfl rfl es) rfl) (by rw [List.length_map]; omega) e5) rfl rfl) ?_
          unfold tBringing_least_0
          have := ex_setI (X := L.tab) (C := callN L.tab (j + k + 2)) (a := .fld 8 3 (.var 0)) (b := .var 4) (k := stD st) e6 rfl (fl kvs' _ rfl) (var_at rfl) (g kvs') e7
          rw [List.set_set] at this
          exact sq this (by rw [exT])
        · unfold tBringing_least_2
          refine sqR (ex_ret (ev_idx (fl _ _ rfl) (var_at rfl) (vw _) rfl ?_))
          rw [idx_st]
          exact getD_same (nk_st st)
    obtain ⟨kvs', hM', e⟩ := body
    refine ⟨kvs', hM', ?_⟩
    show runFd L.tab (callN L.tab (j + k + 2)) fBringing_least [brD two T ws n, spD st.1, .str st.2.1, .bl st.2.2] (S.set n (.dct kvs)) = _
    rw [run_def rfl rfl]
    show outF (exT _ _ tBringing_least_4 (leE two T ws n st .un .un .un .un .un) _) = _
    unfold tBringing_least_4
    rw [sq (ex_asg (ev_tup (xs := [spD st.1, .str st.2.1, .bl st.2.2]) rfl (by show 3 ≤ 1000000; decide)) rfl rfl) rfl]
    exact congrArg outF e
end
end K06

set_option maxHeartbeats 4000000
namespace K06
open PySem R
/-! ### the moves by which it comes -/
section
variable (j : Nat) (S : Store) {two : Bool} {T : Tb3} {ws : List Int}
abbrev lmE (two : Bool) (T : Tb3) (ws : List Int) (n : Nat) (x1 x2 x3 : Sl) (most : Int) (acc : List Mv) (st : Sg) (x7 x8 x9 : Sl) : REnv := [.val (brD two T ws n), x1, x2, x3, .val (.int most), .own (.lst (acc.map mvD)), .val (stD st), x7, x8, x9]
theorem lm_cond (C : Calls) (S : Store) (ρ : REnv) (st : Sg) (h6 : ρ[6]? = some (.val (stD st))) : evE L.tab C (.cmp .lt (.idx (.idx (.var 6) (.cst (.int 0))) (.cst (.int 0))) (.idx (.idx (.var 6) (.cst (.int 0))) (.cst (.int 1)))) ρ S = .ok (.val (.bl (decide (st.1.1 < st.1.2)))) S :=
  ev_cmp (x := .int st.1.1) (y := .int st.1.2) (ra := .val (.int st.1.1)) (rb := .val (.int st.1.2)) (ev_idx (x := spD st.1) (y := .int 0) (ra := .val (spD st.1)) (ev_idx (x := stD st) (y := .int 0) (var_at h6) ev_cst rfl rfl rfl) ev_cst rfl rfl rfl) (ev_idx (x := spD st.1) (y := .int 1) (ra := .val (spD st.1)) (ev_idx (x := stD st) (y := .int 0) (var_at h6) ev_cst rfl rfl rfl) ev_cst rfl rfl rfl) rfl rfl rfl
theorem lm_turn (hT : okTb T) (hn : ws.length ≤ 40) (n : Nat) (hS : n < S.length) (x1 x2 x3 : Sl) (st : Sg) (acc : List Mv) (kvs : List (D × D)) (x7 x8 x9 : Sl) (p7 : plainS x7 = true) (p8 : plainS x8 = true) (p9 : plainS x9 = true) (h0 : 0 ≤ st.1.1) (h1 : st.1.1 < st.1.2) (h2 : st.1.2 ≤ ws.length) (ho : okL st.2.1) (ha : acc.length < 1000) (hM : Memo3 (VM ws two T) kvs) (m : Mv) (hg : gmv ws two T st = some m) :
    ∃ kvs' y7 y8 y9, plainS y7 = true ∧ plainS y8 = true ∧ plainS y9 = true ∧ Memo3 (VM ws two T) kvs' ∧ exT L.tab (callN L.tab (j + 43)) tBringing_least_moves_4 (lmE two T ws n x1 x2 x3 (V ws two T st) acc st x7 x8 x9) (S.set n (.dct kvs)) =
      .nx (lmE two T ws n x1 x2 x3 (V ws two T st - gnS ws st m) (acc ++ (if st.2.2 = true then [] else [m])) (aftS st m) y7 y8 y9) (S.set n (.dct kvs')) := by
  have es := s_steps (j + 41) (S.set n (.dct kvs)) (two := two) hT n st h0 (Int.le_of_lt h1) h2 ho
  unfold gmv at hg
  obtain ⟨ρ', S', hl, y7, y8, y9, kvs', p7', p8', p9', hM', rfl, rfl⟩ := for_brk (f := stepF L.tab (callN L.tab (j + 43)) [7, 8, 9] tBringing_least_moves_3) (g := stpD ws st) (p := fun m => decide (gnS ws st m + V ws two T (aftS st m) ≤ V ws two T st))
    (fun ρ S' => ∃ x7 x8 x9 kvs', plainS x7 = true ∧ plainS x8 = true ∧ plainS x9 = true ∧ Memo3 (VM ws two T) kvs' ∧ S' = S.set n (.dct kvs') ∧ ρ = lmE two T ws n x1 x2 x3 (V ws two T st) acc st x7 x8 x9)
    (fun m ρ S' => ∃ x7 x8 x9 kvs', plainS x7 = true ∧ plainS x8 = true ∧ plainS x9 = true ∧ Memo3 (VM ws two T) kvs' ∧ S' = S.set n (.dct kvs') ∧ ρ = lmE two T ws n x1 x2 x3 (V ws two T st - gnS ws st m) (acc ++ (if st.2.2 = true then [] else [m])) (aftS st m) x7 x8 x9)
    (mvA two T st) (ρ := lmE two T ws n x1 x2 x3 (V ws two T st) acc st x7 x8 x9) (S := S.set n (.dct kvs)) (fun a ham ρ S' hI => by
      obtain ⟨x7, x8, x9, kvs1, p7, p8, p9, hM1, rfl, rfl⟩ := hI
      obtain ⟨a1, a2, a3, a4⟩ := mvA_ok hT ho ham
      obtain ⟨b1, b2, b3⟩ := aft_in (s := st.1) (m := a) (by omega) a4
      obtain ⟨kvs2, hM2, e⟩ := s_least j S (two := two) hT hn n hS 40 (aftS st a) kvs1 (by show 0 ≤ (aft st.1 a).1; omega) b3 (by show (aft st.1 a).2 ≤ _; omega) (aftS_last a1) (by
        have := aftS_rest st a
        have : rest st = st.1.2 - st.1.1 := rfl
        omega) hM1
      have c : evE L.tab (callN L.tab (j + 43)) (.cmp .le (.bin .add (.var 8) (.meth 8 24 (.var 0) (.star (.var 9) .nil))) (.var 4)) (lmE two T ws n x1 x2 x3 (V ws two T st) acc st (.val (mvD a)) (.val (.int (gnS ws st a))) (.val (stD (aftS st a)))) (S.set n (.dct kvs1)) = .ok (.val (.bl (decide (gnS ws st a + V ws two T (aftS st a) ≤ V ws two T st)))) (S.set n (.dct kvs2)) :=
        ev_cmp (ev_bin (r := .val (.int (gnS ws st a + V ws two T (aftS st a)))) (var_at rfl) (ev_methS (d := brD two T ws n) (var_at rfl) rfl (el_star (r := .val (stD (aftS st a))) (var_at rfl) rfl el_nil) e) rfl rfl rfl) (var_at rfl) rfl rfl rfl
      constructor
      · intro q
        rw [q] at c
        refine ⟨_, _, ?_, .val (mvD a), .val (.int (gnS ws st a)), .val (stD (aftS st a)), kvs2, rfl, rfl, rfl, hM2, rfl, rfl⟩
        show exT L.tab (callN L.tab (j + 43)) tBringing_least_moves_3 (lmE two T ws n x1 x2 x3 (V ws two T st) acc st (.val (mvD a)) (.val (.int (gnS ws st a))) (.val (stD (aftS st a)))) (S.set n (.dct kvs1)) = _
        unfold tBringing_least_moves_3
        refine sqB ?_
        rw [ex_iteT c]
        unfold tBringing_least_moves_2
        refine sq (S1 := S.set n (.dct kvs2)) (ρ1 := lmE two T ws n x1 x2 x3 (V ws two T st) (acc ++ (if st.2.2 = true then [] else [a])) st (.val (mvD a)) (.val (.int (gnS ws st a))) (.val (stD (aftS st a)))) ?_ ?_
        · have i2 : evE L.tab (callN L.tab (j + 43)) (.idx (.var 6) (.cst (.int 2))) (lmE two T ws n x1 x2 x3 (V ws two T st) acc st (.val (mvD a)) (.val (.int (gnS ws st a))) (.val (stD (aftS st a)))) (S.set n (.dct kvs2)) = .ok (.val (.bl st.2.2)) (S.set n (.dct kvs2)) := ev_idx (x := stD st) (y := .int 2) (var_at rfl) ev_cst rfl rfl rfl
          have hx := ex_extO (X := L.tab) (C := callN L.tab (j + 43)) (n := 5) (ρ := lmE two T ws n x1 x2 x3 (V ws two T st) acc st (.val (mvD a)) (.val (.int (gnS ws st a))) (.val (stD (aftS st a)))) (S := S.set n (.dct kvs2)) (S1 := S.set n (.dct kvs2)) (e := .ite (.idx (.var 6) (.cst (.int 2))) (.lst .nil) (.lst (.cons (.var 7) .nil))) (xs := acc.map mvD) (ys := (if st.2.2 = true then [] else [a]).map mvD) rfl (by
              cases q2 : st.2.2 with
              | true =>
                rw [q2] at i2
                exact ev_iteT i2 (ev_lst el_nil (Nat.zero_le _))
              | false =>
                rw [q2] at i2
                exact ev_iteF i2 (ev_lst (el_cons (var_at rfl) rfl el_nil) (by show 1 ≤ 1000000; decide))) (by
              rw [List.length_map, List.length_map]
              have : (if st.2.2 = true then [] else [a]).length ≤ 1 := by split <;> simp
              show _ < 1000000
              omega)
          rw [← List.map_append] at hx
          exact hx
        · unfold tBringing_least_moves_1
          refine sq (ex_par (ds := [stD (aftS st a), .int (V ws two T st - gnS ws st a)]) (el_cons (var_at rfl) rfl (el_cons (ev_bin (r := .val (.int (V ws two T st - gnS ws st a))) (var_at rfl) (var_at rfl) rfl rfl rfl) rfl el_nil)) rfl rfl) ?_
          unfold tBringing_least_moves_0
          refine sqB ?_
          rw [exT]
          rfl
      · intro q
        rw [q] at c
        refine ⟨_, _, ?_, .val (mvD a), .val (.int (gnS ws st a)), .val (stD (aftS st a)), kvs2, rfl, rfl, rfl, hM2, rfl, rfl⟩
        show exT L.tab (callN L.tab (j + 43)) tBringing_least_moves_3 (lmE two T ws n x1 x2 x3 (V ws two T st) acc st (.val (mvD a)) (.val (.int (gnS ws st a))) (.val (stD (aftS st a)))) (S.set n (.dct kvs1)) = _
        unfold tBringing_least_moves_3
        exact sq (by rw [ex_iteF c, exT]) (by rw [exT])) ⟨x7, x8, x9, kvs, p7, p8, p9, hM, rfl, rfl⟩ m hg
  refine ⟨kvs', y7, y8, y9, p7', p8', p9', hM', ?_⟩
  unfold tBringing_least_moves_4
  refine sq (ex_for (ev_seqF (r := .own (.lst ((mvA two T st).map (stpD ws st)))) (d := .lst ((mvA two T st).map (stpD ws st))) (ev_methS (d := brD two T ws n) (ds := [spD st.1, .str st.2.1, .bl st.2.2]) (var_at rfl) rfl (el_star (r := .val (stD st)) (var_at rfl) rfl el_nil) es) rfl rfl) rfl (by simp only [lmE, exT, evE, evL, evI, evM, Out.bind_ok, Out.thn_ok, Out.bind_exc, Out.thn_exc, Out.nox, OutS.thn_nx, OutS.thn_rt, OutS.thn_exc, outF, List.getElem?_cons_zero, List.getElem?_cons_succ, List.getElem?_nil, vw_int, vw_bl, vw_non, vw_str, vw_tup, vw_lst, vw_dct, vw_ins, vw_scr, vw_obj, vw_own, vw_tmp, d_lst, d_dct, d_ins, fz_val, fz_own, lk_val, lk_own, lk_tmp, sq_tup, sq_lst, vw_sp, vw_mv, vw_row, List.all_cons, List.all_nil, free1_eq, plainS_val, plainS_un, plainS_lst, plainS_dct, Option.getD_some, notIns, putAll, putM, put, putT, List.map_cons, List.map_nil, List.set_cons_zero, List.set_cons_succ, List.length_cons, List.length_nil, List.nil_append, List.cons_append, Bool.and_self, Bool.and_true, Bool.true_and, Bool.and_false, Bool.false_and, Bool.not_true, Bool.not_false, if_true, ite_true, ite_false, beq_self_eq_true, Option.bind_some, Option.map_some, Nat.zero_add, Nat.reduceAdd, Nat.reduceBEq, Nat.reduceLeDiff, Nat.reduceLT, Nat.reduceEqDiff, decide_true, decide_false, I.stays, vI, vB, reduceIte, Bool.false_eq_true, Bool.true_eq_false, lim, b_addI, b_subI, cmpop_lt, cmpop_le, cmpop_gt, cmpop_ge, cmpop_eq, cmpop_ne, isNon, Bool.bne_true, Bool.bne_false, bne_false2, bne_true2, p7, p8, p9]) hl) (by rw [exT])
theorem lm_walk (hT : okTb T) (hn : ws.length ≤ 40) (n : Nat) (hS : n < S.length) (x1 x2 x3 : Sl) : ∀ (k f : Nat) (st : Sg) (acc : List Mv) (kvs : List (D × D)) (x7 x8 x9 : Sl), plainS x7 = true → plainS x8 = true → plainS x9 = true → 0 ≤ st.1.1 → st.1.1 ≤ st.1.2 → st.1.2 ≤ ws.length → okL st.2.1 → (rest st).toNat ≤ k → k < f → acc.length + k < 1000 → Memo3 (VM ws two T) kvs →
    ∃ st' most' kvs' y7 y8 y9, Memo3 (VM ws two T) kvs' ∧ whileLoop (evE L.tab (callN L.tab (j + 43)) (.cmp .lt (.idx (.idx (.var 6) (.cst (.int 0))) (.cst (.int 0))) (.idx (.idx (.var 6) (.cst (.int 0))) (.cst (.int 1))))) (exT L.tab (callN L.tab (j + 43)) tBringing_least_moves_4) f (lmE two T ws n x1 x2 x3 (V ws two T st) acc st x7 x8 x9) (S.set n (.dct kvs)) =
      .nx (lmE two T ws n x1 x2 x3 most' (acc ++ gpath ws two T k st) st' y7 y8 y9) (S.set n (.dct kvs'))
  | k, 0, st, acc, kvs, x7, x8, x9, _, _, _, _, _, _, _, _, hf, _, _ => by omega
  | k, f + 1, st, acc, kvs, x7, x8, x9, p7, p8, p9, h0, h1, h2, ho, hk, hf, ha, hM => by
    rw [whileLoop, lm_cond (callN L.tab (j + 43)) (S.set n (.dct kvs)) (lmE two T ws n x1 x2 x3 (V ws two T st) acc st x7 x8 x9) st rfl]
    have hr : rest st = st.1.2 - st.1.1 := rfl
    by_cases q : st.1.1 < st.1.2
    · rw [decide_eq_true q]
      obtain ⟨m, hg, hm, ev⟩ := gmv_some (ws := ws) (two := two) hT ho (by omega)
      obtain ⟨a1, a2, a3, a4⟩ := mvA_ok hT ho hm
      obtain ⟨b1, b2, b3⟩ := aft_in (s := st.1) (m := m) (by omega) a4
      have ar := aftS_rest st m
      cases k with
      | zero => omega
      | succ k =>
        obtain ⟨kvs1, y7, y8, y9, p7', p8', p9', hM1, e⟩ := lm_turn j S hT hn n hS x1 x2 x3 st acc kvs x7 x8 x9 p7 p8 p9 h0 q h2 ho (by omega) hM m hg
        simp only [e]
        rw [show V ws two T st - gnS ws st m = V ws two T (aftS st m) by omega]
        obtain ⟨st', most', kvs', z7, z8, z9, hM', ih⟩ := lm_walk hT hn n hS x1 x2 x3 k f (aftS st m) (acc ++ (if st.2.2 = true then [] else [m])) kvs1 y7 y8 y9 p7' p8' p9' (by show 0 ≤ (aft st.1 m).1; omega) b3 (by show (aft st.1 m).2 ≤ _; omega) (aftS_last a1) (by omega) (by omega) (by
          rw [List.length_append]
          have : (if st.2.2 = true then [] else [m]).length ≤ 1 := by split <;> simp
          omega) hM1
        refine ⟨st', most', kvs', z7, z8, z9, hM', ?_⟩
        have hgp : gpath ws two T (k + 1) st = (if st.2.2 = true then [] else [m]) ++ gpath ws two T k (aftS st m) := by
          rw [gpath, if_pos (by omega), hg]
        rw [ih, hgp, List.append_assoc]
    · rw [decide_eq_false q]
      refine ⟨st, V ws two T st, kvs, x7, x8, x9, hM, ?_⟩
      have : gpath ws two T k st = [] := by
        cases k with
        | zero => rfl
        | succ k => rw [gpath, if_neg (by omega)]
      rw [this, List.append_nil]
theorem s_least_moves (hT : okTb T) (hn : ws.length ≤ 40) (n : Nat) (hS : n < S.length) (st : Sg) (kvs : List (D × D)) (k : Nat) (hk2 : k < 100) (h0 : 0 ≤ st.1.1) (h1 : st.1.1 ≤ st.1.2) (h2 : st.1.2 ≤ ws.length) (ho : okL st.2.1) (hk : (rest st).toNat ≤ k) (hM : Memo3 (VM ws two T) kvs) :
    ∃ kvs', Memo3 (VM ws two T) kvs' ∧ callN L.tab (j + 44) 26 [brD two T ws n, spD st.1, .str st.2.1, .bl st.2.2, .int (V ws two T st)] (S.set n (.dct kvs)) = .ok (.val (seqD (gpath ws two T k st))) (S.set n (.dct kvs')) := by
  obtain ⟨st', most', kvs', y7, y8, y9, hM', hw⟩ := lm_walk j S hT hn n hS (.val (spD st.1)) (.val (.str st.2.1)) (.val (.bl st.2.2)) k 100 st [] kvs .un .un .un rfl rfl rfl h0 h1 h2 ho hk hk2 (by show 0 + k < 1000; omega) hM
  rw [List.nil_append] at hw
  refine ⟨kvs', hM', ?_⟩
  show runFd L.tab (callN L.tab (j + 43)) fBringing_least_moves [brD two T ws n, spD st.1, .str st.2.1, .bl st.2.2, .int (V ws two T st)] (S.set n (.dct kvs)) = _
  rw [run_def rfl rfl]
  show outF (exT _ _ tBringing_least_moves_7 [.val (brD two T ws n), .val (spD st.1), .val (.str st.2.1), .val (.bl st.2.2), .val (.int (V ws two T st)), .un, .un, .un, .un, .un] _) = _
  unfold tBringing_least_moves_7
  rw [sq (S1 := S.set n (.dct kvs)) (ρ1 := lmE two T ws n (.val (spD st.1)) (.val (.str st.2.1)) (.val (.bl st.2.2)) (V ws two T st) [] st .un .un .un) (ex_parM2 (s1 := .own (.lst [])) (s2 := .val (stD st)) (em_own (o := .lst []) (ev_lst el_nil (Nat.zero_le _)) rfl (em_val (ev_tup (xs := [spD st.1, .str st.2.1, .bl st.2.2]) rfl (by show 3 ≤ 1000000; decide)) rfl em_nil)) rfl (by decide)) rfl]
  unfold tBringing_least_moves_6
  rw [sq (by rw [exT]; exact hw) rfl]
  unfold tBringing_least_moves_5
  rfl
theorem s_Bringing (n : Nat) (hS : n = S.length) : callN L.tab (j + 1) 23 [.ins 7 [.dct (tabD T)], .str (rl two), rowD ws] S = .ok (.own (.ins 8 [.ins 7 [.dct (tabD T)], .str (rl two), rowD ws, .obj n])) (S ++ [.dct []]) := by
  subst hS
  kernel_rfl
theorem who_cmp (fr : Bool) : cmpop .eq (.str (whS fr)) (.str "first") = some fr := by cases fr <;> kernel_rfl
theorem gl_FIRST : L.tab.gl 4 = some (.str "first") := rfl
theorem s_first (fr : Bool) : callN L.tab (j + 1) 27 [.str (whS fr), rowD ws] S = .ok (.val (stD (fst0 ws fr))) S := by
  show runFd L.tab (callN L.tab j) ffirst_standing [.str (whS fr), rowD ws] S = _
  rw [run_def rfl rfl]
  show outF (exT _ _ tfirst_standing_0 [.val (.str (whS fr)), .val (rowD ws)] S) = _
  unfold tfirst_standing_0
  rw [sqR (ex_ret (ev_tup (xs := [spD (0, (ws.length : Int)), .str "none", .bl fr]) (el_cons (ev_tup (xs := [.int 0, .int ws.length]) (el_cons ev_cst rfl (el_cons (r := .val (.int ws.length)) (by
    have := ev_lenT (X := L.tab) (C := callN L.tab j) (S := S) (a := .var 1) (ρ := [.val (.str (whS fr)), .val (rowD ws)]) (r := .val (rowD ws)) (xs := ws.map D.int) (var_at rfl) rfl
    rwa [List.length_map] at this) rfl el_nil)) (by show 2 ≤ 1000000; decide)) rfl (el_cons (r := .val (.str "none")) rfl rfl (el_cons (ev_cmp (ra := .val (.str (whS fr))) (rb := .val (.str "first")) (var_at rfl) rfl rfl rfl (who_cmp fr)) rfl el_nil))) (by show 3 ≤ 1000000; decide)))]
  rfl
theorem s_brought (hT : okTb T) (hn : ws.length ≤ 40) (fr : Bool) : ∃ kvs, callN L.tab (j + 45) 28 [.ins 7 [.dct (tabD T)], .str (rl two), .str (whS fr), rowD ws] S = .ok (.val (brgD ws two T fr)) (S ++ [.dct kvs]) := by
  have hS : S.length < (S ++ [O.dct []]).length := by simp
  have hr : rest (fst0 ws fr) = ws.length := by show (ws.length : Int) - 0 = _; omega
  have eb := s_Bringing (j + 43) S (two := two) (T := T) (ws := ws) S.length rfl
  have ef := s_first (j + 43) (S ++ [O.dct []]) (ws := ws) fr
  obtain ⟨kvs1, hM1, e1⟩ := s_least (j + 1) (S ++ [O.dct []]) (two := two) hT hn S.length hS 40 (fst0 ws fr) [] (Int.le_refl _) (by show (0 : Int) ≤ ws.length; omega) (Int.le_refl _) (.inr (.inl rfl)) (by omega) (Memo3.nil _)
  obtain ⟨kvs2, hM2, e2⟩ := s_least_moves j (S ++ [O.dct []]) (two := two) hT hn S.length hS (fst0 ws fr) kvs1 ws.length (by omega) (Int.le_refl _) (by show (0 : Int) ≤ ws.length; omega) (Int.le_refl _) (.inr (.inl rfl)) (by omega) hM1
  rw [set_app1, set_app1] at e1 e2
  refine ⟨kvs2, ?_⟩
  show runFd L.tab (callN L.tab (j + 44)) fbrought [.ins 7 [.dct (tabD T)], .str (rl two), .str (whS fr), rowD ws] S = _
  rw [run_def rfl rfl]
  show outF (exT _ _ tbrought_2 [.val (.ins 7 [.dct (tabD T)]), .val (.str (rl two)), .val (.str (whS fr)), .val (rowD ws), .un, .un, .un] S) = _
  unfold tbrought_2
  rw [sq (S1 := S ++ [O.dct []]) (ρ1 := [.val (.ins 7 [.dct (tabD T)]), .val (.str (rl two)), .val (.str (whS fr)), .val (rowD ws), .un, .val (brD two T ws S.length), .val (stD (fst0 ws fr))]) (ex_par (ds := [brD two T ws S.length, stD (fst0 ws fr)]) (el_cons (ev_make (ds := [.ins 7 [.dct (tabD T)], .str (rl two), rowD ws]) rfl eb) rfl (el_cons (ev_call (ds := [.str (whS fr), rowD ws]) rfl ef) rfl el_nil)) rfl rfl) rfl]
  unfold tbrought_1
  rw [sq (S1 := S ++ [O.dct kvs1]) (ρ1 := [.val (.ins 7 [.dct (tabD T)]), .val (.str (rl two)), .val (.str (whS fr)), .val (rowD ws), .val (.int (V ws two T (fst0 ws fr))), .val (brD two T ws S.length), .val (stD (fst0 ws fr))]) (ex_asg (ev_methS (d := brD two T ws S.length) (var_at rfl) rfl (el_star (r := .val (stD (fst0 ws fr))) (var_at rfl) rfl el_nil) e1) rfl rfl) rfl]
  unfold tbrought_0
  rw [sqR (ex_ret (ev_tup (xs := [.int (V ws two T (fst0 ws fr)), seqD (gpath ws two T ws.length (fst0 ws fr))]) (el_cons (var_at rfl) rfl (el_cons (ev_methS (d := brD two T ws S.length) (var_at rfl) rfl (el_star (r := .val (stD (fst0 ws fr))) (xs := [spD (fst0 ws fr).1, .str (fst0 ws fr).2.1, .bl (fst0 ws fr).2.2]) (var_at rfl) rfl (el_cons (var_at rfl) rfl el_nil)) e2) rfl el_nil)) (by show 2 ≤ 1000000; decide)))]
  rfl
theorem s_check_who (fr : Bool) : callN L.tab (j + 2) 20 [.str (whS fr)] S = .ok (.val .non) S := by
  cases fr <;> kernel_rfl
end
end K06

set_option maxHeartbeats 4000000
namespace K06
open PySem R
/-! ### the law's memo of standings -/
section
variable (j : Nat) (S : Store) {two : Bool} {T : Tb3} {ws : List Int}
abbrev VL (ws : List Int) (two : Bool) (T : Tb3) : Sg → D := fun st => .lst [.int (V ws two T st)]
abbrev llE (two : Bool) (T : Tb3) (ws : List Int) (n : Nat) (st : Sg) (x8 x9 x10 x11 x12 x13 x14 x15 : Sl) : REnv := [.val (.dct (tabD T)), .val (.str (rl two)), .val (rowD ws), .val (spD st.1), .val (.str st.2.1), .val (.bl st.2.2), .val (.obj n), .val (stD st), x8, x9, x10, x11, x12, x13, x14, x15]
theorem min_of2 (C : Calls) (ρ : REnv) (n : Nat) (ns : List Int) (hl : ns.length < 1000) (h : ρ[n]? = some (.own (.lst (ns.map D.int)))) :
    evE L.tab C (.lst (.cons (.blt 5 (.bin .add (.peek n) (.ite (.cmp .eq (.peek n) (.lst .nil)) (.lst (.cons (.cst (.int 0)) .nil)) (.lst .nil)))) .nil)) ρ S = .ok (.own (.lst [.int (minO ns)])) S := by
  have pk : evE L.tab C (.peek n) ρ S = .ok (.tmp (.lst (ns.map D.int))) S := by rw [evE, h]
  have e0 : cmpop .eq (.lst (ns.map D.int)) (.lst []) = some (ns.map D.int).isEmpty := eq_nil (k := 0) (fun x hx => by obtain ⟨i, _, rfl⟩ := List.mem_map.mp hx; exact .int _ _) (by decide)
  have c := ev_cmp (X := L.tab) (C := C) (S := S) (ρ := ρ) (a := .peek n) (b := .lst .nil) (op := .eq) (rb := .own (.lst [])) (x := .lst (ns.map D.int)) (y := .lst []) pk (ev_lst el_nil (Nat.zero_le _)) rfl rfl e0
  refine ev_lst (el_cons (r := .val (.int (minO ns))) (d := .int (minO ns)) ?_ rfl el_nil) (by show 1 ≤ 1000000; decide)
  have add : ∀ (ys : List Int), ys.length ≤ 1 → binop .add (.lst (ns.map D.int)) (.lst (ys.map D.int)) = some (.own (.lst ((ns ++ ys).map D.int))) := fun ys hy => by
    rw [b_addL _ _ (by rw [List.length_map, List.length_map]; show _ ≤ 1000000; omega), List.map_append]
  cases ns with
  | nil =>
    refine ev_blt (x := .lst ([(0 : Int)].map D.int)) (r := .own (.lst ([(0 : Int)].map D.int))) (ev_bin (x := .lst []) (y := .lst [.int 0]) (rb := .own (.lst [.int 0])) pk (ev_iteT c (ev_lst (el_cons ev_cst rfl el_nil) (by show 1 ≤ 1000000; decide))) rfl rfl (add [0] (by decide))) rfl ?_
    show (minL ([(0 : Int)].map D.int)).map _ = _
    rw [minL_int (by simp)]
    rfl
  | cons m ns =>
    have a := add [] (by decide)
    rw [List.append_nil] at a
    refine ev_blt (x := .lst ((m :: ns).map D.int)) (r := .own (.lst ((m :: ns).map D.int))) (ev_bin (x := .lst ((m :: ns).map D.int)) (y := .lst []) (rb := .own (.lst [])) pk (ev_iteF c (ev_lst el_nil (Nat.zero_le _))) rfl rfl a) rfl ?_
    show (minL ((m :: ns).map D.int)).map _ = _
    rw [minL_int (by simp)]
    rfl
theorem s_Lleast (hT : okTb T) (hn : ws.length ≤ 40) (n : Nat) (hS : n < S.length) : ∀ (k : Nat) (st : Sg) (kvs : List (D × D)), 0 ≤ st.1.1 → st.1.1 ≤ st.1.2 → st.1.2 ≤ ws.length → okL st.2.1 → (rest st).toNat ≤ k → Memo3 (VL ws two T) kvs →
    ∃ kvs', Memo3 (VL ws two T) kvs' ∧ callN L.tab (j + k + 2) 40 [.dct (tabD T), .str (rl two), rowD ws, spD st.1, .str st.2.1, .bl st.2.2, .obj n] (S.set n (.dct kvs)) = .ok (.val (.lst [.int (V ws two T st)])) (S.set n (.dct kvs'))
  | k, st, kvs, h0, h1, h2, ho, hk, hM => by
    have g : ∀ kvs : List (D × D), (S.set n (.dct kvs))[n]? = some (.dct kvs) := fun kvs => List.getElem?_set_self hS
    have vw : ∀ kvs : List (D × D), (Rv.val (.obj n)).view (S.set n (.dct kvs)) = some (.dct kvs) := fun kvs => by rw [vw_obj, g]; rfl
    have body : ∃ kvs', Memo3 (VL ws two T) kvs' ∧ exT L.tab (callN L.tab (j + k + 1)) tLleast_11 (llE two T ws n st .un .un .un .un .un .un .un .un) (S.set n (.dct kvs)) = .rt (.val (.lst [.int (V ws two T st)])) (S.set n (.dct kvs')) := by
      unfold tLleast_11
      have c0 := ev_isinN (X := L.tab) (C := callN L.tab (j + k + 1)) (S := S.set n (.dct kvs)) (a := .var 7) (b := .var 6) (ρ := llE two T ws n st .un .un .un .un .un .un .un .un) (var_at rfl) (var_at rfl) rfl (vw kvs) (isin_st kvs st)
      cases q : getD kvs (stKey st) with
      | some v =>
        have hv := hM.1 st v q
        subst hv
        have e2 := idx_st kvs st
        rw [q] at e2 c0
        refine ⟨kvs, hM, ?_⟩
        rw [sq (S1 := S.set n (.dct kvs)) (by rw [ex_iteF c0, exT]) rfl]
        unfold tLleast_10
        exact sqR (ex_ret (ev_idx (var_at rfl) (var_at rfl) (vw kvs) rfl e2))
      | none =>
        rw [q] at c0
        have em := s_Lmoves (j + k) (S.set n (.dct kvs)) two (rest st)
        have ep := s_Lplanned (j + k) (S.set n (.dct kvs)) (two := two) hT st ho
        have l4 := mvA_len (two := two) (T := T) (st := st)
        obtain ⟨ρ', S', hl, x9, x12, x13, x14, x15, kvs', p9, p12, p13, p14, p15, hM', rfl, rfl⟩ := for_at (f := stepF L.tab (callN L.tab (j + k + 1)) [9] tLleast_4) (fun i ρ S' => ∃ x9 x12 x13 x14 x15 kvs', plainS x9 = true ∧ plainS x12 = true ∧ plainS x13 = true ∧ plainS x14 = true ∧ plainS x15 = true ∧ Memo3 (VL ws two T) kvs' ∧ S' = S.set n (.dct kvs') ∧
            ρ = llE two T ws n st (.val (.lst ((mvA two T st).map mvD))) x9 (.val (.int (rest st))) (.own (.lst ((((mvA two T st).take i).map fun m => gnS ws st m + V ws two T (aftS st m)).map D.int))) x12 x13 x14 x15)
          ((mvA two T st).map mvD) 0 (ρ := llE two T ws n st (.val (.lst ((mvA two T st).map mvD))) .un (.val (.int (rest st))) (.own (.lst [])) .un .un .un .un) (S := S.set n (.dct kvs)) (fun i x ρ S' hx hI => by
            obtain ⟨x9, x12, x13, x14, x15, kvs1, p9, p12, p13, p14, p15, hM1, rfl, rfl⟩ := hI
            obtain ⟨m, hm, rfl⟩ := at_map hx
            have hmem : m ∈ mvA two T st := List.mem_of_getElem? hm
            obtain ⟨a1, a2, a3, a4⟩ := mvA_ok hT ho hmem
            obtain ⟨b1, b2, b3⟩ := aft_in (s := st.1) (m := m) (by omega) a4
            obtain ⟨t1, t2, t3⟩ := tkn_in (s := st.1) (m := m) (by omega) a4
            have ar := aftS_rest st m
            rw [Nat.zero_add, take_at hm, List.map_append, List.map_append]
            cases k with
            | zero => omega
            | succ k =>
              obtain ⟨kvs2, hM2, e⟩ := s_Lleast hT hn n hS k (aftS st m) kvs1 (by show 0 ≤ (aft st.1 m).1; omega) b3 (by show (aft st.1 m).2 ≤ _; omega) (aftS_last a1) (by omega) hM1
              have c1 := s_Lbehind (j + (k + 1)) (S.set n (.dct kvs1)) st.1 m a1
              refine ⟨_, _, ?_, .val (mvD m), .val (.int (gnS ws st m)), .val (.lst [.int (V ws two T (aftS st m))]), .val (spD (aft st.1 m)), .val (spD (tkn st.1 m)), kvs2, rfl, rfl, rfl, rfl, rfl, hM2, rfl, rfl⟩
              show exT L.tab (callN L.tab (j + (k + 1) + 1)) tLleast_4 (llE two T ws n st (.val (.lst ((mvA two T st).map mvD))) (.val (mvD m)) (.val (.int (rest st))) (.own (.lst ((((mvA two T st).take i).map fun m => gnS ws st m + V ws two T (aftS st m)).map D.int))) x12 x13 x14 x15) (S.set n (.dct kvs1)) = _
              unfold tLleast_4
              refine sq (ex_tuplL (x := spD (aft st.1 m)) (y := spD (tkn st.1 m)) (ev_call (ds := [spD st.1, mvD m]) rfl c1) (by simp only [llE, exT, evE, evL, evI, evM, Out.bind_ok, Out.thn_ok, Out.bind_exc, Out.thn_exc, Out.nox, OutS.thn_nx, OutS.thn_rt, OutS.thn_exc, outF, List.getElem?_cons_zero, List.getElem?_cons_succ, List.getElem?_nil, vw_int, vw_bl, vw_non, vw_str, vw_tup, vw_lst, vw_dct, vw_ins, vw_scr, vw_obj, vw_own, vw_tmp, d_lst, d_dct, d_ins, fz_val, fz_own, lk_val, lk_own, lk_tmp, sq_tup, sq_lst, vw_sp, vw_mv, vw_row, List.all_cons, List.all_nil, free1_eq, plainS_val, plainS_un, plainS_lst, plainS_dct, Option.getD_some, notIns, putAll, putM, put, putT, List.map_cons, List.map_nil, List.set_cons_zero, List.set_cons_succ, List.length_cons, List.length_nil, List.nil_append, List.cons_append, Bool.and_self, Bool.and_true, Bool.true_and, Bool.and_false, Bool.false_and, Bool.not_true, Bool.not_false, if_true, ite_true, ite_false, beq_self_eq_true, Option.bind_some, Option.map_some, Nat.zero_add, Nat.reduceAdd, Nat.reduceBEq, Nat.reduceLeDiff, Nat.reduceLT, Nat.reduceEqDiff, decide_true, decide_false, I.stays, vI, vB, reduceIte, Bool.false_eq_true, Bool.true_eq_false, lim, b_addI, b_subI, cmpop_lt, cmpop_le, cmpop_gt, cmpop_ge, cmpop_eq, cmpop_ne, isNon, Bool.bne_true, Bool.bne_false, bne_false2, bne_true2, p14, p15])) ?_
              unfold tLleast_3
              refine sq (S1 := S.set n (.dct kvs1)) (ρ1 := llE two T ws n st (.val (.lst ((mvA two T st).map mvD))) (.val (mvD m)) (.val (.int (rest st))) (.own (.lst ((((mvA two T st).take i).map fun m => gnS ws st m + V ws two T (aftS st m)).map D.int))) (.val (.int (gnS ws st m))) x13 (.val (spD (aft st.1 m))) (.val (spD (tkn st.1 m)))) (ex_asg (r := .val (.int (gnS ws st m))) (ev_gainS (own := st.2.2) (ws := ws) (s := tkn st.1 m) rfl rfl rfl (by omega) t3 (by omega)) rfl (by simp only [llE, exT, evE, evL, evI, evM, Out.bind_ok, Out.thn_ok, Out.bind_exc, Out.thn_exc, Out.nox, OutS.thn_nx, OutS.thn_rt, OutS.thn_exc, outF, List.getElem?_cons_zero, List.getElem?_cons_succ, List.getElem?_nil, vw_int, vw_bl, vw_non, vw_str, vw_tup, vw_lst, vw_dct, vw_ins, vw_scr, vw_obj, vw_own, vw_tmp, d_lst, d_dct, d_ins, fz_val, fz_own, lk_val, lk_own, lk_tmp, sq_tup, sq_lst, vw_sp, vw_mv, vw_row, List.all_cons, List.all_nil, free1_eq, plainS_val, plainS_un, plainS_lst, plainS_dct, Option.getD_some, notIns, putAll, putM, put, putT, List.map_cons, List.map_nil, List.set_cons_zero, List.set_cons_succ, List.length_cons, List.length_nil, List.nil_append, List.cons_append, Bool.and_self, Bool.and_true, Bool.true_and, Bool.and_false, Bool.false_and, Bool.not_true, Bool.not_false, if_true, ite_true, ite_false, beq_self_eq_true, Option.bind_some, Option.map_some, Nat.zero_add, Nat.reduceAdd, Nat.reduceBEq, Nat.reduceLeDiff, Nat.reduceLT, Nat.reduceEqDiff, decide_true, decide_false, I.stays, vI, vB, reduceIte, Bool.false_eq_true, Bool.true_eq_false, lim, b_addI, b_subI, cmpop_lt, cmpop_le, cmpop_gt, cmpop_ge, cmpop_eq, cmpop_ne, isNon, Bool.bne_true, Bool.bne_false, bne_false2, bne_true2, p12])) ?_
              unfold tLleast_2
              refine sq (S1 := S.set n (.dct kvs2)) (ρ1 := llE two T ws n st (.val (.lst ((mvA two T st).map mvD))) (.val (mvD m)) (.val (.int (rest st))) (.own (.lst ((((mvA two T st).take i).map fun m => gnS ws st m + V ws two T (aftS st m)).map D.int))) (.val (.int (gnS ws st m))) (.val (.lst [.int (V ws two T (aftS st m))])) (.val (spD (aft st.1 m))) (.val (spD (tkn st.1 m)))) (ex_asg (r := .val (.lst [.int (V ws two T (aftS st m))])) (ev_call (ds := [.dct (tabD T), .str (rl two), rowD ws, spD (aftS st m).1, .str (aftS st m).2.1, .bl (aftS st m).2.2, .obj n]) (el_cons (var_at rfl) rfl (el_cons (var_at rfl) rfl (el_cons (var_at rfl) rfl (el_cons (var_at rfl) rfl (el_cons (r := .val (.str (aftS st m).2.1)) (last_ite (o := 5) (i := 9) (m := m) (own := st.2.2) rfl rfl) rfl (el_cons (ev_not (var_at rfl)) rfl (el_cons (var_at rfl) rfl el_nil))))))) e) rfl (by simp only [llE, exT, evE, evL, evI, evM, Out.bind_ok, Out.thn_ok, Out.bind_exc, Out.thn_exc, Out.nox, OutS.thn_nx, OutS.thn_rt, OutS.thn_exc, outF, List.getElem?_cons_zero, List.getElem?_cons_succ, List.getElem?_nil, vw_int, vw_bl, vw_non, vw_str, vw_tup, vw_lst, vw_dct, vw_ins, vw_scr, vw_obj, vw_own, vw_tmp, d_lst, d_dct, d_ins, fz_val, fz_own, lk_val, lk_own, lk_tmp, sq_tup, sq_lst, vw_sp, vw_mv, vw_row, List.all_cons, List.all_nil, free1_eq, plainS_val, plainS_un, plainS_lst, plainS_dct, Option.getD_some, notIns, putAll, putM, put, putT, List.map_cons, List.map_nil, List.set_cons_zero, List.set_cons_succ, List.length_cons, List.length_nil, List.nil_append, List.cons_append, Bool.and_self, Bool.and_true, Bool.true_and, Bool.and_false, Bool.false_and, Bool.not_true, Bool.not_false, if_true, ite_true, ite_false, beq_self_eq_true, Option.bind_some, Option.map_some, Nat.zero_add, Nat.reduceAdd, Nat.reduceBEq, Nat.reduceLeDiff, Nat.reduceLT, Nat.reduceEqDiff, decide_true, decide_false, I.stays, vI, vB, reduceIte, Bool.false_eq_true, Bool.true_eq_false, lim, b_addI, b_subI, cmpop_lt, cmpop_le, cmpop_gt, cmpop_ge, cmpop_eq, cmpop_ne, isNon, Bool.bne_true, Bool.bne_false, bne_false2, bne_true2, p13])) ?_
              unfold tLleast_1
              refine sq (S1 := S.set n (.dct kvs2)) (ex_appO (d := .int (gnS ws st m + V ws two T (aftS st m))) (xs := (((mvA two T st).take i).map fun m => gnS ws st m + V ws two T (aftS st m)).map D.int) rfl (ev_bin (r := .val (.int (gnS ws st m + V ws two T (aftS st m)))) (var_at rfl) (ev_idx (x := .lst [.int (V ws two T (aftS st m))]) (y := .int 0) (d := .int (V ws two T (aftS st m))) (var_at rfl) ev_cst rfl rfl rfl) rfl rfl rfl) rfl (by
                rw [List.length_map, List.length_map]
                have : ((mvA two T st).take i).length ≤ (mvA two T st).length := List.length_take_le' ..
                show _ < 1000000
                omega)) ?_
              rw [exT]
              rfl) ⟨.un, .un, .un, .un, .un, kvs, rfl, rfl, rfl, rfl, rfl, hM, rfl, rfl⟩
        rw [Nat.zero_add, List.length_map, List.take_length] at hl
        have b := min_of2 (S.set n (.dct kvs')) (callN L.tab (j + k + 1)) (llE two T ws n st (.val (.lst ((mvA two T st).map mvD))) x9 (.val (.int (rest st))) (.own (.lst (((mvA two T st).map fun m => gnS ws st m + V ws two T (aftS st m)).map D.int))) x12 x13 x14 x15) 11 ((mvA two T st).map fun m => gnS ws st m + V ws two T (aftS st m)) (by rw [List.length_map]; omega) rfl
        rw [← V_eq hT ho] at b
        have hlen := hM'.len
        have e7 := set_st kvs' st (.lst [.int (V ws two T st)]) (by omega)
        refine ⟨putD kvs' (stKey st) (stD st) (.lst [.int (V ws two T st)]), hM'.put h0 h1 (by omega) ho, ?_⟩
        refine sq (S1 := S.set n (.dct (putD kvs' (stKey st) (stD st) (.lst [.int (V ws two T st)])))) (ρ1 := llE two T ws n st (.val (.lst ((mvA two T st).map mvD))) x9 (.val (.int (rest st))) (.own (.lst (((mvA two T st).map fun m => gnS ws st m + V ws two T (aftS st m)).map D.int))) x12 x13 x14 x15) ?_ ?_
        · rw [ex_iteT c0]
          unfold tLleast_9
          refine sq (S1 := S.set n (.dct kvs)) (ρ1 := llE two T ws n st .un .un (.val (.int (rest st))) (.own (.lst [])) .un .un .un .un) (ex_parM2 (s1 := .val (.int (rest st))) (s2 := .own (.lst [])) (em_val (rest_ev (i := 3) (st := st) rfl) rfl (em_own (ev_lst el_nil (Nat.zero_le _)) rfl em_nil)) rfl (by decide)) ?_
          unfold tLleast_8
          refine sq (S1 := S.set n (.dct kvs)) (ρ1 := llE two T ws n st (.val (.lst ((mvs two (rest st)).map mvD))) .un (.val (.int (rest st))) (.own (.lst [])) .un .un .un .un) (ex_asg (r := .own (.lst ((mvs two (rest st)).map mvD))) (ev_call (ds := [.str (rl two), .int (rest st)]) rfl em) rfl rfl) ?_
          unfold tLleast_7
          refine sq (S1 := S.set n (.dct kvs)) (ρ1 := llE two T ws n st (.val (.lst ((mvA two T st).map mvD))) .un (.val (.int (rest st))) (.own (.lst [])) .un .un .un .un) ?_ ?_
          · have c : evE L.tab (callN L.tab (j + k + 1)) (.cmp .gt (.var 10) (.cst (.int 0))) (llE two T ws n st (.val (.lst ((mvs two (rest st)).map mvD))) .un (.val (.int (rest st))) (.own (.lst [])) .un .un .un .un) (S.set n (.dct kvs)) = .ok (.val (.bl (decide (0 < rest st)))) (S.set n (.dct kvs)) := rfl
            have hi : evE L.tab (callN L.tab (j + k + 1)) (.var 5) (llE two T ws n st (.val (.lst ((mvs two (rest st)).map mvD))) .un (.val (.int (rest st))) (.own (.lst [])) .un .un .un .un) (S.set n (.dct kvs)) = .ok (.val (.bl st.2.2)) (S.set n (.dct kvs)) := var_at rfl
            by_cases own : st.2.2 = true
            · rw [own] at hi
              by_cases q : 0 < rest st
              · rw [decide_eq_true q] at c
                rw [ex_iteT (ev_and hi c)]
                have hm : mvA two T st = [ownM two T st] := by
                  unfold mvA
                  rw [if_pos own, if_pos q]
                rw [hm]
                unfold tLleast_0
                refine sq (ex_asg (r := .own (.lst [mvD (ownM two T st)])) (ev_lst (el_cons (ev_call (ds := [.dct (tabD T), .str (rl two), .int (rest st), .int st.1.1, .str st.2.1]) (el_cons (var_at rfl) rfl (el_cons (var_at rfl) rfl (el_cons (var_at rfl) rfl (el_cons (ev_idx (x := spD st.1) (y := .int 0) (d := .int st.1.1) (var_at rfl) ev_cst rfl rfl rfl) rfl (el_cons (var_at rfl) rfl el_nil))))) ep) rfl el_nil) (by show 1 ≤ 1000000; decide)) rfl rfl) ?_
                rw [exT]
                rfl
              · rw [decide_eq_false q] at c
                rw [ex_iteF (ev_and hi c), exT, mvA_nil q]
                have hm2 : mvs two (rest st) = [] := by unfold mvs; rw [if_neg q]
                rw [hm2]
            · rw [Bool.eq_false_iff.mpr own] at hi
              rw [ex_iteF (ev_andF hi), exT]
              have hm : mvA two T st = mvs two (rest st) := by
                unfold mvA
                rw [if_neg own]
              rw [hm]
          unfold tLleast_6
          refine sq (ex_for (ev_seqF (r := .val (.lst ((mvA two T st).map mvD))) (var_at rfl) rfl rfl) rfl rfl hl) ?_
          unfold tLleast_5
          have := ex_setI (X := L.tab) (C := callN L.tab (j + k + 1)) (a := .var 6) (b := .var 7) (k := stD st) b rfl (var_at rfl) (var_at rfl) (g kvs') e7
          rw [List.set_set] at this
          exact sq this (by rw [exT])
        · unfold tLleast_10
          refine sqR (ex_ret (ev_idx (var_at rfl) (var_at rfl) (vw _) rfl ?_))
          rw [idx_st]
          exact getD_same (nk_st st)
    obtain ⟨kvs', hM', e⟩ := body
    refine ⟨kvs', hM', ?_⟩
    show runFd L.tab (callN L.tab (j + k + 1)) fLleast [.dct (tabD T), .str (rl two), rowD ws, spD st.1, .str st.2.1, .bl st.2.2, .obj n] (S.set n (.dct kvs)) = _
    rw [run_def rfl rfl]
    show outF (exT _ _ tLleast_12 [.val (.dct (tabD T)), .val (.str (rl two)), .val (rowD ws), .val (spD st.1), .val (.str st.2.1), .val (.bl st.2.2), .val (.obj n), .un, .un, .un, .un, .un, .un, .un, .un, .un] _) = _
    unfold tLleast_12
    rw [sq (ex_asg (r := .val (stD st)) (ev_tup (xs := [spD st.1, .str st.2.1, .bl st.2.2]) rfl (by show 3 ≤ 1000000; decide)) rfl rfl) rfl]
    exact congrArg outF e
theorem s_Lbrought (hT : okTb T) (hn : ws.length ≤ 40) (fr : Bool) : ∃ kvs, callN L.tab (j + 43) 41 [.dct (tabD T), .str (rl two), .str (whS fr), rowD ws] S = .ok (.val (.int (V ws two T (fst0 ws fr)))) (S ++ [.dct kvs]) := by
  have hS : S.length < (S ++ [O.dct []]).length := by simp
  have hr : rest (fst0 ws fr) = ws.length := by show (ws.length : Int) - 0 = _; omega
  obtain ⟨kvs1, hM1, e1⟩ := s_Lleast j (S ++ [O.dct []]) (two := two) hT hn S.length hS 40 (fst0 ws fr) [] (Int.le_refl _) (by show (0 : Int) ≤ ws.length; omega) (Int.le_refl _) (.inr (.inl rfl)) (by omega) (Memo3.nil _)
  rw [set_app1, set_app1] at e1
  refine ⟨kvs1, ?_⟩
  show runFd L.tab (callN L.tab (j + 42)) fLbrought [.dct (tabD T), .str (rl two), .str (whS fr), rowD ws] S = _
  rw [run_def rfl rfl]
  show outF (exT _ _ tLbrought_0 [.val (.dct (tabD T)), .val (.str (rl two)), .val (.str (whS fr)), .val (rowD ws)] S) = _
  unfold tLbrought_0
  refine (congrArg outF (sqR (S1 := S ++ [.dct kvs1]) (r := .val (.int (V ws two T (fst0 ws fr)))) (ex_ret (ev_idx (x := .lst [.int (V ws two T (fst0 ws fr))]) (y := .int 0) (d := .int (V ws two T (fst0 ws fr))) (ra := .val (.lst [.int (V ws two T (fst0 ws fr))])) (ev_call (ds := [.dct (tabD T), .str (rl two), rowD ws, spD (fst0 ws fr).1, .str (fst0 ws fr).2.1, .bl (fst0 ws fr).2.2, .obj S.length]) (el_cons (var_at rfl) rfl (el_cons (var_at rfl) rfl (el_cons (var_at rfl) rfl (el_cons (r := .val (spD (fst0 ws fr).1)) (len_ev rfl) rfl (el_cons ev_cst rfl (el_cons (ev_cmp (ra := .val (.str (whS fr))) (rb := .val (.str "first")) (var_at rfl) ev_cst rfl rfl (who_cmp fr)) rfl (el_cons (ev_mk (ob := .dct []) rfl) rfl el_nil))))))) e1) ev_cst rfl rfl rfl)))).trans rfl
end
end K06

set_option maxHeartbeats 4000000
namespace K06
open PySem R
/-! ### the law's plays -/
section
variable (j : Nat) (S : Store) {two : Bool} {T : Tb3} {ws : List Int}
abbrev lpE (two : Bool) (T : Tb3) (ws : List Int) (st : Sg) (x6 x7 x8 x9 x10 x11 x12 x13 x14 : Sl) : REnv := [.val (.dct (tabD T)), .val (.str (rl two)), .val (rowD ws), .val (spD st.1), .val (.str st.2.1), .val (.bl st.2.2), x6, x7, x8, x9, x10, x11, x12, x13, x14]
/-- a play put behind -/
theorem lp_app (C : Calls) (st : Sg) (m : Mv) (ps : List (Int × List Mv)) (p : Int × List Mv) (hl : ps.length < 100000) (hp : p.2.length < 1000) (x6 x8 x11 x12 : Sl) :
    exT L.tab C tLplays_1 (lpE two T ws st x6 (.val (mvD m)) x8 (.own (.lst (ps.map plD))) (.val (.int (gnS ws st m))) x11 x12 (.val (.int p.1)) (.val (seqD p.2))) S =
      .nx (lpE two T ws st x6 (.val (mvD m)) x8 (.own (.lst ((ps ++ [PG ws st m p]).map plD))) (.val (.int (gnS ws st m))) x11 x12 (.val (.int p.1)) (.val (seqD p.2))) S := by
  unfold tLplays_1
  have hi : evE L.tab C (.var 5) (lpE two T ws st x6 (.val (mvD m)) x8 (.own (.lst (ps.map plD))) (.val (.int (gnS ws st m))) x11 x12 (.val (.int p.1)) (.val (seqD p.2))) S = .ok (.val (.bl st.2.2)) S := var_at rfl
  have e2 : evE L.tab C (.ite (.var 5) (.var 14) (.bin .add (.tup (.cons (.var 7) .nil)) (.var 14))) (lpE two T ws st x6 (.val (mvD m)) x8 (.own (.lst (ps.map plD))) (.val (.int (gnS ws st m))) x11 x12 (.val (.int p.1)) (.val (seqD p.2))) S = .ok (.val (seqD (PG ws st m p).2)) S := by
    unfold PG
    cases q : st.2.2 with
    | true =>
      rw [q] at hi
      exact ev_iteT hi (var_at rfl)
    | false =>
      rw [q] at hi
      refine ev_iteF hi (ev_bin (x := .tup [mvD m]) (y := seqD p.2) (ra := .val (.tup [mvD m])) (rb := .val (seqD p.2)) (ev_tup (el_cons (var_at rfl) rfl el_nil) (by show 1 ≤ 1000000; decide)) (var_at rfl) rfl rfl ?_)
      have := b_addT [mvD m] (p.2.map mvD) (by rw [List.length_map]; show 1 + _ ≤ 1000000; omega)
      exact this
  refine sq (S1 := S) (ex_appO (d := plD (PG ws st m p)) (xs := ps.map plD) rfl (ev_tup (xs := [.int (p.1 + gnS ws st m), seqD (PG ws st m p).2]) (el_cons (ev_bin (r := .val (.int (p.1 + gnS ws st m))) (var_at rfl) (var_at rfl) rfl rfl rfl) rfl (el_cons e2 rfl el_nil)) (by show 2 ≤ 1000000; decide)) rfl (by rw [List.length_map]; show _ < 1000000; omega)) ?_
  rw [exT, List.map_append]
  rfl
theorem s_Lplays (hT : okTb T) : ∀ (k : Nat) (st : Sg), 0 ≤ st.1.1 → st.1.1 ≤ st.1.2 → st.1.2 ≤ ws.length → okL st.2.1 → (rest st).toNat ≤ k → rest st ≤ 9 → k ≤ 9 →
    callN L.tab (j + k + 2) 42 [.dct (tabD T), .str (rl two), rowD ws, spD st.1, .str st.2.1, .bl st.2.2] S = .ok (.own (.lst ((plays ws two T k st).map plD))) S
  | k, st, h0, h1, h2, ho, hk, h9, hk9 => by
    have hr : rest st = st.1.2 - st.1.1 := rfl
    show runFd L.tab (callN L.tab (j + k + 1)) fLplays [.dct (tabD T), .str (rl two), rowD ws, spD st.1, .str st.2.1, .bl st.2.2] S = _
    rw [run_def rfl rfl]
    show outF (exT _ _ tLplays_9 (lpE two T ws st .un .un .un .un .un .un .un .un .un) S) = _
    unfold tLplays_9
    rw [sq (S1 := S) (ρ1 := lpE two T ws st .un .un (.val (.int (rest st))) (.own (.lst [])) .un .un .un .un .un) (ex_parM2 (s1 := .val (.int (rest st))) (s2 := .own (.lst [])) (em_val (rest_ev (i := 3) (st := st) rfl) rfl (em_own (ev_lst el_nil (Nat.zero_le _)) rfl em_nil)) rfl (by decide)) rfl]
    unfold tLplays_8
    have c8 : evE L.tab (callN L.tab (j + k + 1)) (.cmp .eq (.var 8) (.cst (.int 0))) (lpE two T ws st .un .un (.val (.int (rest st))) (.own (.lst [])) .un .un .un .un .un) S = .ok (.val (.bl (decide (rest st = 0)))) S := ev_cmp (var_at rfl) ev_cst rfl rfl (cmp_eqI _ _)
    by_cases q : rest st = 0
    · rw [decide_eq_true q] at c8
      rw [plays_zero q, show exT L.tab (callN L.tab (j + k + 1)) (.seq (.ite (.cmp .eq (.var 8) (.cst (.int 0))) tLplays_0 .skip) tLplays_7) (lpE two T ws st .un .un (.val (.int (rest st))) (.own (.lst [])) .un .un .un .un .un) S = .rt (.own (.lst [plD (0, [])])) S from sqR (by
        rw [ex_iteT c8]
        unfold tLplays_0
        rfl)]
      rfl
    · rw [decide_eq_false q] at c8
      rw [sq (by rw [ex_iteF c8, exT]) rfl]
      cases k with
      | zero => omega
      | succ k =>
        rw [plays_succ q]
        have l4 := mvA_len (two := two) (T := T) (st := st)
        have em := s_Lmoves (j + (k + 1)) S two (rest st)
        have ep := s_Lplanned (j + (k + 1)) S (two := two) hT st ho
        have e7 : evE L.tab (callN L.tab (j + (k + 1) + 1)) (.ite (.var 5) (.lst (.cons (.call 38 (.cons (.var 0) (.cons (.var 1) (.cons (.var 8) (.cons (.idx (.var 3) (.cst (.int 0))) (.cons (.var 4) .nil)))))) .nil)) (.call 37 (.cons (.var 1) (.cons (.var 8) .nil)))) (lpE two T ws st .un .un (.val (.int (rest st))) (.own (.lst [])) .un .un .un .un .un) S = .ok (.own (.lst ((mvA two T st).map mvD))) S := by
          have hi : evE L.tab (callN L.tab (j + (k + 1) + 1)) (.var 5) (lpE two T ws st .un .un (.val (.int (rest st))) (.own (.lst [])) .un .un .un .un .un) S = .ok (.val (.bl st.2.2)) S := var_at rfl
          unfold mvA
          by_cases own : st.2.2 = true
          · rw [if_pos own, if_pos (by omega)]
            rw [own] at hi
            exact ev_iteT hi (ev_lst (el_cons (ev_call (ds := [.dct (tabD T), .str (rl two), .int (rest st), .int st.1.1, .str st.2.1]) (el_cons (var_at rfl) rfl (el_cons (var_at rfl) rfl (el_cons (var_at rfl) rfl (el_cons (ev_idx (x := spD st.1) (y := .int 0) (d := .int st.1.1) (var_at rfl) ev_cst rfl rfl rfl) rfl (el_cons (var_at rfl) rfl el_nil))))) ep) rfl el_nil) (by show 1 ≤ 1000000; decide))
          · rw [if_neg own]
            rw [Bool.eq_false_iff.mpr own] at hi
            exact ev_iteF hi (ev_call (ds := [.str (rl two), .int (rest st)]) rfl em)
        have hsm := plays_small (ws := ws) (two := two) hT (k := k + 1) ho (by omega) h9 hk
        rw [plays_succ q] at hsm
        unfold tLplays_7
        rw [sq (S1 := S) (ρ1 := lpE two T ws st (.val (.lst ((mvA two T st).map mvD))) .un (.val (.int (rest st))) (.own (.lst [])) .un .un .un .un .un) (ex_asg e7 rfl rfl) rfl]
        unfold tLplays_6
        obtain ⟨ρ', S', hl, x7, x10, x11, x12, x13, x14, p7, p10, p11, p12, p13, p14, rfl, rfl⟩ := for_at (f := stepF L.tab (callN L.tab (j + (k + 1) + 1)) [7] tLplays_4) (fun i ρ S' => ∃ x7 x10 x11 x12 x13 x14, plainS x7 = true ∧ plainS x10 = true ∧ plainS x11 = true ∧ plainS x12 = true ∧ plainS x13 = true ∧ plainS x14 = true ∧ S = S' ∧
            ρ = lpE two T ws st (.val (.lst ((mvA two T st).map mvD))) x7 (.val (.int (rest st))) (.own (.lst ((((mvA two T st).take i).flatMap fun m => (plays ws two T k (aftS st m)).map (PG ws st m)).map plD))) x10 x11 x12 x13 x14)
          ((mvA two T st).map mvD) 0 (ρ := lpE two T ws st (.val (.lst ((mvA two T st).map mvD))) .un (.val (.int (rest st))) (.own (.lst [])) .un .un .un .un .un) (S := S) (fun i x ρ S' hx hI => by
            obtain ⟨x7, x10, x11, x12, x13, x14, p7, p10, p11, p12, p13, p14, rfl, rfl⟩ := hI
            obtain ⟨m, hm, rfl⟩ := at_map hx
            have hmem : m ∈ mvA two T st := List.mem_of_getElem? hm
            obtain ⟨a1, a2, a3, a4⟩ := mvA_ok hT ho hmem
            obtain ⟨b1, b2, b3⟩ := aft_in (s := st.1) (m := m) (by omega) a4
            obtain ⟨t1, t2, t3⟩ := tkn_in (s := st.1) (m := m) (by omega) a4
            have ar := aftS_rest st m
            rw [Nat.zero_add, take_at hm, List.flatMap_append, List.flatMap_cons, List.flatMap_nil, List.append_nil]
            have ih := s_Lplays hT k (aftS st m) (by show 0 ≤ (aft st.1 m).1; omega) b3 (by show (aft st.1 m).2 ≤ _; omega) (aftS_last a1) (by omega) (by omega) (by omega)
            have c1 := s_Lbehind (j + (k + 1)) S st.1 m a1
            have hsm2 := flat_take (fun m => (plays ws two T k (aftS st m)).map (PG ws st m)) (mvA two T st) (i + 1)
            rw [take_at hm, List.flatMap_append, List.flatMap_cons, List.flatMap_nil, List.append_nil, List.length_append, List.length_map] at hsm2
            generalize hA : (((mvA two T st).take i).flatMap fun m => (plays ws two T k (aftS st m)).map (PG ws st m)) = A at hsm2 ⊢
            obtain ⟨ρ', S2, hl2, x13', x14', p13', p14', rfl, rfl⟩ := for_at (f := stepF L.tab (callN L.tab (j + (k + 1) + 1)) [13, 14] tLplays_1) (fun i' ρ S2 => ∃ x13 x14, plainS x13 = true ∧ plainS x14 = true ∧ S = S2 ∧
                ρ = lpE two T ws st (.val (.lst ((mvA two T st).map mvD))) (.val (mvD m)) (.val (.int (rest st))) (.own (.lst ((A ++ ((plays ws two T k (aftS st m)).take i').map (PG ws st m)).map plD))) (.val (.int (gnS ws st m))) (.val (spD (aft st.1 m))) (.val (spD (tkn st.1 m))) x13 x14)
              ((plays ws two T k (aftS st m)).map plD) 0 (ρ := lpE two T ws st (.val (.lst ((mvA two T st).map mvD))) (.val (mvD m)) (.val (.int (rest st))) (.own (.lst (A.map plD))) (.val (.int (gnS ws st m))) (.val (spD (aft st.1 m))) (.val (spD (tkn st.1 m))) x13 x14) (S := S) (fun i' x ρ S2 hx hI => by
                obtain ⟨x13, x14, p13, p14, rfl, rfl⟩ := hI
                obtain ⟨p, hp, rfl⟩ := at_map hx
                have hpm := plays_mv k _ p (List.mem_of_getElem? hp)
                have ea : A ++ ((plays ws two T k (aftS st m)).take i' ++ [p]).map (PG ws st m) = (A ++ ((plays ws two T k (aftS st m)).take i').map (PG ws st m)) ++ [PG ws st m p] := by
                  rw [List.map_append, ← List.append_assoc]
                  rfl
                rw [Nat.zero_add, take_at hp, ea]
                refine ⟨_, _, lp_app S (callN L.tab (j + (k + 1) + 1)) st m (A ++ ((plays ws two T k (aftS st m)).take i').map (PG ws st m)) p (by
                  rw [List.length_append, List.length_map]
                  have : ((plays ws two T k (aftS st m)).take i').length ≤ (plays ws two T k (aftS st m)).length := List.length_take_le' ..
                  omega) (by omega) (.val (.lst ((mvA two T st).map mvD))) (.val (.int (rest st))) (.val (spD (aft st.1 m))) (.val (spD (tkn st.1 m))), .val (.int p.1), .val (seqD p.2), rfl, rfl, rfl, rfl⟩) ⟨x13, x14, p13, p14, rfl, by rw [List.take_zero, List.map_nil, List.append_nil]⟩
            rw [Nat.zero_add, List.length_map, List.take_length] at hl2
            refine ⟨_, S, ?_, .val (mvD m), .val (.int (gnS ws st m)), .val (spD (aft st.1 m)), .val (spD (tkn st.1 m)), x13', x14', rfl, rfl, rfl, rfl, p13', p14', rfl, rfl⟩
            show exT L.tab (callN L.tab (j + (k + 1) + 1)) tLplays_4 (lpE two T ws st (.val (.lst ((mvA two T st).map mvD))) (.val (mvD m)) (.val (.int (rest st))) (.own (.lst (A.map plD))) x10 x11 x12 x13 x14) S = _
            unfold tLplays_4
            refine sq (ex_tuplL (x := spD (aft st.1 m)) (y := spD (tkn st.1 m)) (ev_call (ds := [spD st.1, mvD m]) rfl c1) (by simp only [lpE, exT, evE, evL, evI, evM, Out.bind_ok, Out.thn_ok, Out.bind_exc, Out.thn_exc, Out.nox, OutS.thn_nx, OutS.thn_rt, OutS.thn_exc, outF, List.getElem?_cons_zero, List.getElem?_cons_succ, List.getElem?_nil, vw_int, vw_bl, vw_non, vw_str, vw_tup, vw_lst, vw_dct, vw_ins, vw_scr, vw_obj, vw_own, vw_tmp, d_lst, d_dct, d_ins, fz_val, fz_own, lk_val, lk_own, lk_tmp, sq_tup, sq_lst, vw_sp, vw_mv, vw_row, List.all_cons, List.all_nil, free1_eq, plainS_val, plainS_un, plainS_lst, plainS_dct, Option.getD_some, notIns, putAll, putM, put, putT, List.map_cons, List.map_nil, List.set_cons_zero, List.set_cons_succ, List.length_cons, List.length_nil, List.nil_append, List.cons_append, Bool.and_self, Bool.and_true, Bool.true_and, Bool.and_false, Bool.false_and, Bool.not_true, Bool.not_false, if_true, ite_true, ite_false, beq_self_eq_true, Option.bind_some, Option.map_some, Nat.zero_add, Nat.reduceAdd, Nat.reduceBEq, Nat.reduceLeDiff, Nat.reduceLT, Nat.reduceEqDiff, decide_true, decide_false, I.stays, vI, vB, reduceIte, Bool.false_eq_true, Bool.true_eq_false, lim, b_addI, b_subI, cmpop_lt, cmpop_le, cmpop_gt, cmpop_ge, cmpop_eq, cmpop_ne, isNon, Bool.bne_true, Bool.bne_false, bne_false2, bne_true2, p11, p12])) ?_
            unfold tLplays_3
            refine sq (S1 := S) (ρ1 := lpE two T ws st (.val (.lst ((mvA two T st).map mvD))) (.val (mvD m)) (.val (.int (rest st))) (.own (.lst (A.map plD))) (.val (.int (gnS ws st m))) (.val (spD (aft st.1 m))) (.val (spD (tkn st.1 m))) x13 x14) (ex_asg (r := .val (.int (gnS ws st m))) (ev_gainS (own := st.2.2) (ws := ws) (s := tkn st.1 m) rfl rfl rfl (by omega) t3 (by omega)) rfl (by simp only [lpE, exT, evE, evL, evI, evM, Out.bind_ok, Out.thn_ok, Out.bind_exc, Out.thn_exc, Out.nox, OutS.thn_nx, OutS.thn_rt, OutS.thn_exc, outF, List.getElem?_cons_zero, List.getElem?_cons_succ, List.getElem?_nil, vw_int, vw_bl, vw_non, vw_str, vw_tup, vw_lst, vw_dct, vw_ins, vw_scr, vw_obj, vw_own, vw_tmp, d_lst, d_dct, d_ins, fz_val, fz_own, lk_val, lk_own, lk_tmp, sq_tup, sq_lst, vw_sp, vw_mv, vw_row, List.all_cons, List.all_nil, free1_eq, plainS_val, plainS_un, plainS_lst, plainS_dct, Option.getD_some, notIns, putAll, putM, put, putT, List.map_cons, List.map_nil, List.set_cons_zero, List.set_cons_succ, List.length_cons, List.length_nil, List.nil_append, List.cons_append, Bool.and_self, Bool.and_true, Bool.true_and, Bool.and_false, Bool.false_and, Bool.not_true, Bool.not_false, if_true, ite_true, ite_false, beq_self_eq_true, Option.bind_some, Option.map_some, Nat.zero_add, Nat.reduceAdd, Nat.reduceBEq, Nat.reduceLeDiff, Nat.reduceLT, Nat.reduceEqDiff, decide_true, decide_false, I.stays, vI, vB, reduceIte, Bool.false_eq_true, Bool.true_eq_false, lim, b_addI, b_subI, cmpop_lt, cmpop_le, cmpop_gt, cmpop_ge, cmpop_eq, cmpop_ne, isNon, Bool.bne_true, Bool.bne_false, bne_false2, bne_true2, p10])) ?_
            unfold tLplays_2
            refine sq (ex_for (ev_seqF (r := .own (.lst ((plays ws two T k (aftS st m)).map plD))) (ev_call (ds := [.dct (tabD T), .str (rl two), rowD ws, spD (aftS st m).1, .str (aftS st m).2.1, .bl (aftS st m).2.2]) (el_cons (var_at rfl) rfl (el_cons (var_at rfl) rfl (el_cons (var_at rfl) rfl (el_cons (var_at rfl) rfl (el_cons (r := .val (.str (aftS st m).2.1)) (last_ite (o := 5) (i := 7) (m := m) (own := st.2.2) rfl rfl) rfl (el_cons (ev_not (var_at rfl)) rfl el_nil)))))) ih) rfl rfl) rfl (by simp only [lpE, exT, evE, evL, evI, evM, Out.bind_ok, Out.thn_ok, Out.bind_exc, Out.thn_exc, Out.nox, OutS.thn_nx, OutS.thn_rt, OutS.thn_exc, outF, List.getElem?_cons_zero, List.getElem?_cons_succ, List.getElem?_nil, vw_int, vw_bl, vw_non, vw_str, vw_tup, vw_lst, vw_dct, vw_ins, vw_scr, vw_obj, vw_own, vw_tmp, d_lst, d_dct, d_ins, fz_val, fz_own, lk_val, lk_own, lk_tmp, sq_tup, sq_lst, vw_sp, vw_mv, vw_row, List.all_cons, List.all_nil, free1_eq, plainS_val, plainS_un, plainS_lst, plainS_dct, Option.getD_some, notIns, putAll, putM, put, putT, List.map_cons, List.map_nil, List.set_cons_zero, List.set_cons_succ, List.length_cons, List.length_nil, List.nil_append, List.cons_append, Bool.and_self, Bool.and_true, Bool.true_and, Bool.and_false, Bool.false_and, Bool.not_true, Bool.not_false, if_true, ite_true, ite_false, beq_self_eq_true, Option.bind_some, Option.map_some, Nat.zero_add, Nat.reduceAdd, Nat.reduceBEq, Nat.reduceLeDiff, Nat.reduceLT, Nat.reduceEqDiff, decide_true, decide_false, I.stays, vI, vB, reduceIte, Bool.false_eq_true, Bool.true_eq_false, lim, b_addI, b_subI, cmpop_lt, cmpop_le, cmpop_gt, cmpop_ge, cmpop_eq, cmpop_ne, isNon, Bool.bne_true, Bool.bne_false, bne_false2, bne_true2, p13, p14]) hl2) ?_
            rw [exT]) ⟨.un, .un, .un, .un, .un, .un, rfl, rfl, rfl, rfl, rfl, rfl, rfl, rfl⟩
        rw [Nat.zero_add, List.length_map, List.take_length] at hl
        rw [sq (ex_for (ev_seqF (r := .val (.lst ((mvA two T st).map mvD))) (var_at rfl) rfl rfl) rfl rfl hl) rfl]
        unfold tLplays_5
        rfl
end
end K06

set_option maxHeartbeats 4000000
namespace K06
open PySem R
/-! ### simple rows -/
section
variable (j : Nat) (S : Store)
theorem s_simple_0_1 : callN L.tab (j + 2) 11 [.str (FS 0), .int (1 : Nat)] S = .ok (.own (.lst ((simR 0 1).map rowD))) S := by kernel_rfl
theorem s_simple_0_2 : callN L.tab (j + 2) 11 [.str (FS 0), .int (2 : Nat)] S = .ok (.own (.lst ((simR 0 2).map rowD))) S := by kernel_rfl
theorem s_simple_0_3 : callN L.tab (j + 2) 11 [.str (FS 0), .int (3 : Nat)] S = .ok (.own (.lst ((simR 0 3).map rowD))) S := by kernel_rfl
theorem s_simple_0_4 : callN L.tab (j + 2) 11 [.str (FS 0), .int (4 : Nat)] S = .ok (.own (.lst ((simR 0 4).map rowD))) S := by kernel_rfl
theorem s_simple_0_5 : callN L.tab (j + 2) 11 [.str (FS 0), .int (5 : Nat)] S = .ok (.own (.lst ((simR 0 5).map rowD))) S := by kernel_rfl
theorem s_simple_0_6 : callN L.tab (j + 2) 11 [.str (FS 0), .int (6 : Nat)] S = .ok (.own (.lst ((simR 0 6).map rowD))) S := by kernel_rfl
theorem s_simple_0_7 : callN L.tab (j + 2) 11 [.str (FS 0), .int (7 : Nat)] S = .ok (.own (.lst ((simR 0 7).map rowD))) S := by kernel_rfl
theorem s_simple_0_8 : callN L.tab (j + 2) 11 [.str (FS 0), .int (8 : Nat)] S = .ok (.own (.lst ((simR 0 8).map rowD))) S := by kernel_rfl
theorem s_simple_0_16 : callN L.tab (j + 2) 11 [.str (FS 0), .int (16 : Nat)] S = .ok (.own (.lst ((simR 0 16).map rowD))) S := by kernel_rfl
theorem s_simple_1_1 : callN L.tab (j + 2) 11 [.str (FS 1), .int (1 : Nat)] S = .ok (.own (.lst ((simR 1 1).map rowD))) S := by kernel_rfl
theorem s_simple_1_2 : callN L.tab (j + 2) 11 [.str (FS 1), .int (2 : Nat)] S = .ok (.own (.lst ((simR 1 2).map rowD))) S := by kernel_rfl
theorem s_simple_1_3 : callN L.tab (j + 2) 11 [.str (FS 1), .int (3 : Nat)] S = .ok (.own (.lst ((simR 1 3).map rowD))) S := by kernel_rfl
theorem s_simple_1_4 : callN L.tab (j + 2) 11 [.str (FS 1), .int (4 : Nat)] S = .ok (.own (.lst ((simR 1 4).map rowD))) S := by kernel_rfl
theorem s_simple_1_5 : callN L.tab (j + 2) 11 [.str (FS 1), .int (5 : Nat)] S = .ok (.own (.lst ((simR 1 5).map rowD))) S := by kernel_rfl
theorem s_simple_1_6 : callN L.tab (j + 2) 11 [.str (FS 1), .int (6 : Nat)] S = .ok (.own (.lst ((simR 1 6).map rowD))) S := by kernel_rfl
theorem s_simple_1_7 : callN L.tab (j + 2) 11 [.str (FS 1), .int (7 : Nat)] S = .ok (.own (.lst ((simR 1 7).map rowD))) S := by kernel_rfl
theorem s_simple_1_8 : callN L.tab (j + 2) 11 [.str (FS 1), .int (8 : Nat)] S = .ok (.own (.lst ((simR 1 8).map rowD))) S := by kernel_rfl
theorem s_simple_1_16 : callN L.tab (j + 2) 11 [.str (FS 1), .int (16 : Nat)] S = .ok (.own (.lst ((simR 1 16).map rowD))) S := by kernel_rfl
theorem s_simple_2_1 : callN L.tab (j + 2) 11 [.str (FS 2), .int (1 : Nat)] S = .ok (.own (.lst ((simR 2 1).map rowD))) S := by kernel_rfl
theorem s_simple_2_2 : callN L.tab (j + 2) 11 [.str (FS 2), .int (2 : Nat)] S = .ok (.own (.lst ((simR 2 2).map rowD))) S := by kernel_rfl
theorem s_simple_2_3 : callN L.tab (j + 2) 11 [.str (FS 2), .int (3 : Nat)] S = .ok (.own (.lst ((simR 2 3).map rowD))) S := by kernel_rfl
theorem s_simple_2_4 : callN L.tab (j + 2) 11 [.str (FS 2), .int (4 : Nat)] S = .ok (.own (.lst ((simR 2 4).map rowD))) S := by kernel_rfl
theorem s_simple_2_5 : callN L.tab (j + 2) 11 [.str (FS 2), .int (5 : Nat)] S = .ok (.own (.lst ((simR 2 5).map rowD))) S := by kernel_rfl
theorem s_simple_2_6 : callN L.tab (j + 2) 11 [.str (FS 2), .int (6 : Nat)] S = .ok (.own (.lst ((simR 2 6).map rowD))) S := by kernel_rfl
theorem s_simple_2_7 : callN L.tab (j + 2) 11 [.str (FS 2), .int (7 : Nat)] S = .ok (.own (.lst ((simR 2 7).map rowD))) S := by kernel_rfl
theorem s_simple_2_8 : callN L.tab (j + 2) 11 [.str (FS 2), .int (8 : Nat)] S = .ok (.own (.lst ((simR 2 8).map rowD))) S := by kernel_rfl
theorem s_simple_2_16 : callN L.tab (j + 2) 11 [.str (FS 2), .int (16 : Nat)] S = .ok (.own (.lst ((simR 2 16).map rowD))) S := by kernel_rfl
theorem s_simple_3_1 : callN L.tab (j + 2) 11 [.str (FS 3), .int (1 : Nat)] S = .ok (.own (.lst ((simR 3 1).map rowD))) S := by kernel_rfl
theorem s_simple_3_2 : callN L.tab (j + 2) 11 [.str (FS 3), .int (2 : Nat)] S = .ok (.own (.lst ((simR 3 2).map rowD))) S := by kernel_rfl
theorem s_simple_3_3 : callN L.tab (j + 2) 11 [.str (FS 3), .int (3 : Nat)] S = .ok (.own (.lst ((simR 3 3).map rowD))) S := by kernel_rfl
theorem s_simple_3_4 : callN L.tab (j + 2) 11 [.str (FS 3), .int (4 : Nat)] S = .ok (.own (.lst ((simR 3 4).map rowD))) S := by kernel_rfl
theorem s_simple_3_5 : callN L.tab (j + 2) 11 [.str (FS 3), .int (5 : Nat)] S = .ok (.own (.lst ((simR 3 5).map rowD))) S := by kernel_rfl
theorem s_simple_3_6 : callN L.tab (j + 2) 11 [.str (FS 3), .int (6 : Nat)] S = .ok (.own (.lst ((simR 3 6).map rowD))) S := by kernel_rfl
theorem s_simple_3_7 : callN L.tab (j + 2) 11 [.str (FS 3), .int (7 : Nat)] S = .ok (.own (.lst ((simR 3 7).map rowD))) S := by kernel_rfl
theorem s_simple_3_8 : callN L.tab (j + 2) 11 [.str (FS 3), .int (8 : Nat)] S = .ok (.own (.lst ((simR 3 8).map rowD))) S := by kernel_rfl
theorem s_simple_3_16 : callN L.tab (j + 2) 11 [.str (FS 3), .int (16 : Nat)] S = .ok (.own (.lst ((simR 3 16).map rowD))) S := by kernel_rfl
theorem s_simple_4_1 : callN L.tab (j + 2) 11 [.str (FS 4), .int (1 : Nat)] S = .ok (.own (.lst ((simR 4 1).map rowD))) S := by kernel_rfl
theorem s_simple_4_2 : callN L.tab (j + 2) 11 [.str (FS 4), .int (2 : Nat)] S = .ok (.own (.lst ((simR 4 2).map rowD))) S := by kernel_rfl
theorem s_simple_4_3 : callN L.tab (j + 2) 11 [.str (FS 4), .int (3 : Nat)] S = .ok (.own (.lst ((simR 4 3).map rowD))) S := by kernel_rfl
theorem s_simple_4_4 : callN L.tab (j + 2) 11 [.str (FS 4), .int (4 : Nat)] S = .ok (.own (.lst ((simR 4 4).map rowD))) S := by kernel_rfl
theorem s_simple_4_5 : callN L.tab (j + 2) 11 [.str (FS 4), .int (5 : Nat)] S = .ok (.own (.lst ((simR 4 5).map rowD))) S := by kernel_rfl
theorem s_simple_4_6 : callN L.tab (j + 2) 11 [.str (FS 4), .int (6 : Nat)] S = .ok (.own (.lst ((simR 4 6).map rowD))) S := by kernel_rfl
theorem s_simple_4_7 : callN L.tab (j + 2) 11 [.str (FS 4), .int (7 : Nat)] S = .ok (.own (.lst ((simR 4 7).map rowD))) S := by kernel_rfl
theorem s_simple_4_8 : callN L.tab (j + 2) 11 [.str (FS 4), .int (8 : Nat)] S = .ok (.own (.lst ((simR 4 8).map rowD))) S := by kernel_rfl
theorem s_simple_4_16 : callN L.tab (j + 2) 11 [.str (FS 4), .int (16 : Nat)] S = .ok (.own (.lst ((simR 4 16).map rowD))) S := by kernel_rfl
theorem s_simple_5_1 : callN L.tab (j + 2) 11 [.str (FS 5), .int (1 : Nat)] S = .ok (.own (.lst ((simR 5 1).map rowD))) S := by kernel_rfl
theorem s_simple_5_2 : callN L.tab (j + 2) 11 [.str (FS 5), .int (2 : Nat)] S = .ok (.own (.lst ((simR 5 2).map rowD))) S := by kernel_rfl
theorem s_simple_5_3 : callN L.tab (j + 2) 11 [.str (FS 5), .int (3 : Nat)] S = .ok (.own (.lst ((simR 5 3).map rowD))) S := by kernel_rfl
theorem s_simple_5_4 : callN L.tab (j + 2) 11 [.str (FS 5), .int (4 : Nat)] S = .ok (.own (.lst ((simR 5 4).map rowD))) S := by kernel_rfl
theorem s_simple_5_5 : callN L.tab (j + 2) 11 [.str (FS 5), .int (5 : Nat)] S = .ok (.own (.lst ((simR 5 5).map rowD))) S := by kernel_rfl
theorem s_simple_5_6 : callN L.tab (j + 2) 11 [.str (FS 5), .int (6 : Nat)] S = .ok (.own (.lst ((simR 5 6).map rowD))) S := by kernel_rfl
theorem s_simple_5_7 : callN L.tab (j + 2) 11 [.str (FS 5), .int (7 : Nat)] S = .ok (.own (.lst ((simR 5 7).map rowD))) S := by kernel_rfl
theorem s_simple_5_8 : callN L.tab (j + 2) 11 [.str (FS 5), .int (8 : Nat)] S = .ok (.own (.lst ((simR 5 8).map rowD))) S := by kernel_rfl
theorem s_simple_5_16 : callN L.tab (j + 2) 11 [.str (FS 5), .int (16 : Nat)] S = .ok (.own (.lst ((simR 5 16).map rowD))) S := by kernel_rfl
theorem s_simple_6_1 : callN L.tab (j + 2) 11 [.str (FS 6), .int (1 : Nat)] S = .ok (.own (.lst ((simR 6 1).map rowD))) S := by kernel_rfl
theorem s_simple_6_2 : callN L.tab (j + 2) 11 [.str (FS 6), .int (2 : Nat)] S = .ok (.own (.lst ((simR 6 2).map rowD))) S := by kernel_rfl
theorem s_simple_6_3 : callN L.tab (j + 2) 11 [.str (FS 6), .int (3 : Nat)] S = .ok (.own (.lst ((simR 6 3).map rowD))) S := by kernel_rfl
theorem s_simple_6_4 : callN L.tab (j + 2) 11 [.str (FS 6), .int (4 : Nat)] S = .ok (.own (.lst ((simR 6 4).map rowD))) S := by kernel_rfl
theorem s_simple_6_5 : callN L.tab (j + 2) 11 [.str (FS 6), .int (5 : Nat)] S = .ok (.own (.lst ((simR 6 5).map rowD))) S := by kernel_rfl
theorem s_simple_6_6 : callN L.tab (j + 2) 11 [.str (FS 6), .int (6 : Nat)] S = .ok (.own (.lst ((simR 6 6).map rowD))) S := by kernel_rfl
theorem s_simple_6_7 : callN L.tab (j + 2) 11 [.str (FS 6), .int (7 : Nat)] S = .ok (.own (.lst ((simR 6 7).map rowD))) S := by kernel_rfl
theorem s_simple_6_8 : callN L.tab (j + 2) 11 [.str (FS 6), .int (8 : Nat)] S = .ok (.own (.lst ((simR 6 8).map rowD))) S := by kernel_rfl
theorem s_simple_6_16 : callN L.tab (j + 2) 11 [.str (FS 6), .int (16 : Nat)] S = .ok (.own (.lst ((simR 6 16).map rowD))) S := by kernel_rfl
theorem s_simple {f n : Nat} (hf : f < 7) (hn : n ∈ NS) : callN L.tab (j + 2) 11 [.str (FS f), .int n] S = .ok (.own (.lst ((simR f n).map rowD))) S := by
  unfold NS at hn
  simp only [List.mem_cons, List.mem_nil_iff, or_false] at hn
  obtain rfl | rfl | rfl | rfl | rfl | rfl | rfl : f = 0 ∨ f = 1 ∨ f = 2 ∨ f = 3 ∨ f = 4 ∨ f = 5 ∨ f = 6 := by omega
  · rcases hn with rfl | rfl | rfl | rfl | rfl | rfl | rfl | rfl | rfl
    · exact s_simple_0_1 j S
    · exact s_simple_0_2 j S
    · exact s_simple_0_3 j S
    · exact s_simple_0_4 j S
    · exact s_simple_0_5 j S
    · exact s_simple_0_6 j S
    · exact s_simple_0_7 j S
    · exact s_simple_0_8 j S
    · exact s_simple_0_16 j S
  · rcases hn with rfl | rfl | rfl | rfl | rfl | rfl | rfl | rfl | rfl
    · exact s_simple_1_1 j S
    · exact s_simple_1_2 j S
    · exact s_simple_1_3 j S
    · exact s_simple_1_4 j S
    · exact s_simple_1_5 j S
    · exact s_simple_1_6 j S
    · exact s_simple_1_7 j S
    · exact s_simple_1_8 j S
    · exact s_simple_1_16 j S
  · rcases hn with rfl | rfl | rfl | rfl | rfl | rfl | rfl | rfl | rfl
    · exact s_simple_2_1 j S
    · exact s_simple_2_2 j S
    · exact s_simple_2_3 j S
    · exact s_simple_2_4 j S
    · exact s_simple_2_5 j S
    · exact s_simple_2_6 j S
    · exact s_simple_2_7 j S
    · exact s_simple_2_8 j S
    · exact s_simple_2_16 j S
  · rcases hn with rfl | rfl | rfl | rfl | rfl | rfl | rfl | rfl | rfl
    · exact s_simple_3_1 j S
    · exact s_simple_3_2 j S
    · exact s_simple_3_3 j S
    · exact s_simple_3_4 j S
    · exact s_simple_3_5 j S
    · exact s_simple_3_6 j S
    · exact s_simple_3_7 j S
    · exact s_simple_3_8 j S
    · exact s_simple_3_16 j S
  · rcases hn with rfl | rfl | rfl | rfl | rfl | rfl | rfl | rfl | rfl
    · exact s_simple_4_1 j S
    · exact s_simple_4_2 j S
    · exact s_simple_4_3 j S
    · exact s_simple_4_4 j S
    · exact s_simple_4_5 j S
    · exact s_simple_4_6 j S
    · exact s_simple_4_7 j S
    · exact s_simple_4_8 j S
    · exact s_simple_4_16 j S
  · rcases hn with rfl | rfl | rfl | rfl | rfl | rfl | rfl | rfl | rfl
    · exact s_simple_5_1 j S
    · exact s_simple_5_2 j S
    · exact s_simple_5_3 j S
    · exact s_simple_5_4 j S
    · exact s_simple_5_5 j S
    · exact s_simple_5_6 j S
    · exact s_simple_5_7 j S
    · exact s_simple_5_8 j S
    · exact s_simple_5_16 j S
  · rcases hn with rfl | rfl | rfl | rfl | rfl | rfl | rfl | rfl | rfl
    · exact s_simple_6_1 j S
    · exact s_simple_6_2 j S
    · exact s_simple_6_3 j S
    · exact s_simple_6_4 j S
    · exact s_simple_6_5 j S
    · exact s_simple_6_6 j S
    · exact s_simple_6_7 j S
    · exact s_simple_6_8 j S
    · exact s_simple_6_16 j S
theorem s_Lsimple_0_1 : callN L.tab (j + 1) 36 [.str (FS 0), .int (1 : Nat)] S = .ok (.own (.lst ((simR 0 1).map rowD))) S := by kernel_rfl
theorem s_Lsimple_0_2 : callN L.tab (j + 1) 36 [.str (FS 0), .int (2 : Nat)] S = .ok (.own (.lst ((simR 0 2).map rowD))) S := by kernel_rfl
theorem s_Lsimple_0_3 : callN L.tab (j + 1) 36 [.str (FS 0), .int (3 : Nat)] S = .ok (.own (.lst ((simR 0 3).map rowD))) S := by kernel_rfl
theorem s_Lsimple_0_4 : callN L.tab (j + 1) 36 [.str (FS 0), .int (4 : Nat)] S = .ok (.own (.lst ((simR 0 4).map rowD))) S := by kernel_rfl
theorem s_Lsimple_0_5 : callN L.tab (j + 1) 36 [.str (FS 0), .int (5 : Nat)] S = .ok (.own (.lst ((simR 0 5).map rowD))) S := by kernel_rfl
theorem s_Lsimple_0_6 : callN L.tab (j + 1) 36 [.str (FS 0), .int (6 : Nat)] S = .ok (.own (.lst ((simR 0 6).map rowD))) S := by kernel_rfl
theorem s_Lsimple_0_7 : callN L.tab (j + 1) 36 [.str (FS 0), .int (7 : Nat)] S = .ok (.own (.lst ((simR 0 7).map rowD))) S := by kernel_rfl
theorem s_Lsimple_0_8 : callN L.tab (j + 1) 36 [.str (FS 0), .int (8 : Nat)] S = .ok (.own (.lst ((simR 0 8).map rowD))) S := by kernel_rfl
theorem s_Lsimple_0_16 : callN L.tab (j + 1) 36 [.str (FS 0), .int (16 : Nat)] S = .ok (.own (.lst ((simR 0 16).map rowD))) S := by kernel_rfl
theorem s_Lsimple_1_1 : callN L.tab (j + 1) 36 [.str (FS 1), .int (1 : Nat)] S = .ok (.own (.lst ((simR 1 1).map rowD))) S := by kernel_rfl
theorem s_Lsimple_1_2 : callN L.tab (j + 1) 36 [.str (FS 1), .int (2 : Nat)] S = .ok (.own (.lst ((simR 1 2).map rowD))) S := by kernel_rfl
theorem s_Lsimple_1_3 : callN L.tab (j + 1) 36 [.str (FS 1), .int (3 : Nat)] S = .ok (.own (.lst ((simR 1 3).map rowD))) S := by kernel_rfl
theorem s_Lsimple_1_4 : callN L.tab (j + 1) 36 [.str (FS 1), .int (4 : Nat)] S = .ok (.own (.lst ((simR 1 4).map rowD))) S := by kernel_rfl
theorem s_Lsimple_1_5 : callN L.tab (j + 1) 36 [.str (FS 1), .int (5 : Nat)] S = .ok (.own (.lst ((simR 1 5).map rowD))) S := by kernel_rfl
theorem s_Lsimple_1_6 : callN L.tab (j + 1) 36 [.str (FS 1), .int (6 : Nat)] S = .ok (.own (.lst ((simR 1 6).map rowD))) S := by kernel_rfl
theorem s_Lsimple_1_7 : callN L.tab (j + 1) 36 [.str (FS 1), .int (7 : Nat)] S = .ok (.own (.lst ((simR 1 7).map rowD))) S := by kernel_rfl
theorem s_Lsimple_1_8 : callN L.tab (j + 1) 36 [.str (FS 1), .int (8 : Nat)] S = .ok (.own (.lst ((simR 1 8).map rowD))) S := by kernel_rfl
theorem s_Lsimple_1_16 : callN L.tab (j + 1) 36 [.str (FS 1), .int (16 : Nat)] S = .ok (.own (.lst ((simR 1 16).map rowD))) S := by kernel_rfl
theorem s_Lsimple_2_1 : callN L.tab (j + 1) 36 [.str (FS 2), .int (1 : Nat)] S = .ok (.own (.lst ((simR 2 1).map rowD))) S := by kernel_rfl
theorem s_Lsimple_2_2 : callN L.tab (j + 1) 36 [.str (FS 2), .int (2 : Nat)] S = .ok (.own (.lst ((simR 2 2).map rowD))) S := by kernel_rfl
theorem s_Lsimple_2_3 : callN L.tab (j + 1) 36 [.str (FS 2), .int (3 : Nat)] S = .ok (.own (.lst ((simR 2 3).map rowD))) S := by kernel_rfl
theorem s_Lsimple_2_4 : callN L.tab (j + 1) 36 [.str (FS 2), .int (4 : Nat)] S = .ok (.own (.lst ((simR 2 4).map rowD))) S := by kernel_rfl
theorem s_Lsimple_2_5 : callN L.tab (j + 1) 36 [.str (FS 2), .int (5 : Nat)] S = .ok (.own (.lst ((simR 2 5).map rowD))) S := by kernel_rfl
theorem s_Lsimple_2_6 : callN L.tab (j + 1) 36 [.str (FS 2), .int (6 : Nat)] S = .ok (.own (.lst ((simR 2 6).map rowD))) S := by kernel_rfl
theorem s_Lsimple_2_7 : callN L.tab (j + 1) 36 [.str (FS 2), .int (7 : Nat)] S = .ok (.own (.lst ((simR 2 7).map rowD))) S := by kernel_rfl
theorem s_Lsimple_2_8 : callN L.tab (j + 1) 36 [.str (FS 2), .int (8 : Nat)] S = .ok (.own (.lst ((simR 2 8).map rowD))) S := by kernel_rfl
theorem s_Lsimple_2_16 : callN L.tab (j + 1) 36 [.str (FS 2), .int (16 : Nat)] S = .ok (.own (.lst ((simR 2 16).map rowD))) S := by kernel_rfl
theorem s_Lsimple_3_1 : callN L.tab (j + 1) 36 [.str (FS 3), .int (1 : Nat)] S = .ok (.own (.lst ((simR 3 1).map rowD))) S := by kernel_rfl
theorem s_Lsimple_3_2 : callN L.tab (j + 1) 36 [.str (FS 3), .int (2 : Nat)] S = .ok (.own (.lst ((simR 3 2).map rowD))) S := by kernel_rfl
theorem s_Lsimple_3_3 : callN L.tab (j + 1) 36 [.str (FS 3), .int (3 : Nat)] S = .ok (.own (.lst ((simR 3 3).map rowD))) S := by kernel_rfl
theorem s_Lsimple_3_4 : callN L.tab (j + 1) 36 [.str (FS 3), .int (4 : Nat)] S = .ok (.own (.lst ((simR 3 4).map rowD))) S := by kernel_rfl
theorem s_Lsimple_3_5 : callN L.tab (j + 1) 36 [.str (FS 3), .int (5 : Nat)] S = .ok (.own (.lst ((simR 3 5).map rowD))) S := by kernel_rfl
theorem s_Lsimple_3_6 : callN L.tab (j + 1) 36 [.str (FS 3), .int (6 : Nat)] S = .ok (.own (.lst ((simR 3 6).map rowD))) S := by kernel_rfl
theorem s_Lsimple_3_7 : callN L.tab (j + 1) 36 [.str (FS 3), .int (7 : Nat)] S = .ok (.own (.lst ((simR 3 7).map rowD))) S := by kernel_rfl
theorem s_Lsimple_3_8 : callN L.tab (j + 1) 36 [.str (FS 3), .int (8 : Nat)] S = .ok (.own (.lst ((simR 3 8).map rowD))) S := by kernel_rfl
theorem s_Lsimple_3_16 : callN L.tab (j + 1) 36 [.str (FS 3), .int (16 : Nat)] S = .ok (.own (.lst ((simR 3 16).map rowD))) S := by kernel_rfl
theorem s_Lsimple_4_1 : callN L.tab (j + 1) 36 [.str (FS 4), .int (1 : Nat)] S = .ok (.own (.lst ((simR 4 1).map rowD))) S := by kernel_rfl
theorem s_Lsimple_4_2 : callN L.tab (j + 1) 36 [.str (FS 4), .int (2 : Nat)] S = .ok (.own (.lst ((simR 4 2).map rowD))) S := by kernel_rfl
theorem s_Lsimple_4_3 : callN L.tab (j + 1) 36 [.str (FS 4), .int (3 : Nat)] S = .ok (.own (.lst ((simR 4 3).map rowD))) S := by kernel_rfl
theorem s_Lsimple_4_4 : callN L.tab (j + 1) 36 [.str (FS 4), .int (4 : Nat)] S = .ok (.own (.lst ((simR 4 4).map rowD))) S := by kernel_rfl
theorem s_Lsimple_4_5 : callN L.tab (j + 1) 36 [.str (FS 4), .int (5 : Nat)] S = .ok (.own (.lst ((simR 4 5).map rowD))) S := by kernel_rfl
theorem s_Lsimple_4_6 : callN L.tab (j + 1) 36 [.str (FS 4), .int (6 : Nat)] S = .ok (.own (.lst ((simR 4 6).map rowD))) S := by kernel_rfl
theorem s_Lsimple_4_7 : callN L.tab (j + 1) 36 [.str (FS 4), .int (7 : Nat)] S = .ok (.own (.lst ((simR 4 7).map rowD))) S := by kernel_rfl
theorem s_Lsimple_4_8 : callN L.tab (j + 1) 36 [.str (FS 4), .int (8 : Nat)] S = .ok (.own (.lst ((simR 4 8).map rowD))) S := by kernel_rfl
theorem s_Lsimple_4_16 : callN L.tab (j + 1) 36 [.str (FS 4), .int (16 : Nat)] S = .ok (.own (.lst ((simR 4 16).map rowD))) S := by kernel_rfl
theorem s_Lsimple_5_1 : callN L.tab (j + 1) 36 [.str (FS 5), .int (1 : Nat)] S = .ok (.own (.lst ((simR 5 1).map rowD))) S := by kernel_rfl
theorem s_Lsimple_5_2 : callN L.tab (j + 1) 36 [.str (FS 5), .int (2 : Nat)] S = .ok (.own (.lst ((simR 5 2).map rowD))) S := by kernel_rfl
theorem s_Lsimple_5_3 : callN L.tab (j + 1) 36 [.str (FS 5), .int (3 : Nat)] S = .ok (.own (.lst ((simR 5 3).map rowD))) S := by kernel_rfl
theorem s_Lsimple_5_4 : callN L.tab (j + 1) 36 [.str (FS 5), .int (4 : Nat)] S = .ok (.own (.lst ((simR 5 4).map rowD))) S := by kernel_rfl
theorem s_Lsimple_5_5 : callN L.tab (j + 1) 36 [.str (FS 5), .int (5 : Nat)] S = .ok (.own (.lst ((simR 5 5).map rowD))) S := by kernel_rfl
theorem s_Lsimple_5_6 : callN L.tab (j + 1) 36 [.str (FS 5), .int (6 : Nat)] S = .ok (.own (.lst ((simR 5 6).map rowD))) S := by kernel_rfl
theorem s_Lsimple_5_7 : callN L.tab (j + 1) 36 [.str (FS 5), .int (7 : Nat)] S = .ok (.own (.lst ((simR 5 7).map rowD))) S := by kernel_rfl
theorem s_Lsimple_5_8 : callN L.tab (j + 1) 36 [.str (FS 5), .int (8 : Nat)] S = .ok (.own (.lst ((simR 5 8).map rowD))) S := by kernel_rfl
theorem s_Lsimple_5_16 : callN L.tab (j + 1) 36 [.str (FS 5), .int (16 : Nat)] S = .ok (.own (.lst ((simR 5 16).map rowD))) S := by kernel_rfl
theorem s_Lsimple_6_1 : callN L.tab (j + 1) 36 [.str (FS 6), .int (1 : Nat)] S = .ok (.own (.lst ((simR 6 1).map rowD))) S := by kernel_rfl
theorem s_Lsimple_6_2 : callN L.tab (j + 1) 36 [.str (FS 6), .int (2 : Nat)] S = .ok (.own (.lst ((simR 6 2).map rowD))) S := by kernel_rfl
theorem s_Lsimple_6_3 : callN L.tab (j + 1) 36 [.str (FS 6), .int (3 : Nat)] S = .ok (.own (.lst ((simR 6 3).map rowD))) S := by kernel_rfl
theorem s_Lsimple_6_4 : callN L.tab (j + 1) 36 [.str (FS 6), .int (4 : Nat)] S = .ok (.own (.lst ((simR 6 4).map rowD))) S := by kernel_rfl
theorem s_Lsimple_6_5 : callN L.tab (j + 1) 36 [.str (FS 6), .int (5 : Nat)] S = .ok (.own (.lst ((simR 6 5).map rowD))) S := by kernel_rfl
theorem s_Lsimple_6_6 : callN L.tab (j + 1) 36 [.str (FS 6), .int (6 : Nat)] S = .ok (.own (.lst ((simR 6 6).map rowD))) S := by kernel_rfl
theorem s_Lsimple_6_7 : callN L.tab (j + 1) 36 [.str (FS 6), .int (7 : Nat)] S = .ok (.own (.lst ((simR 6 7).map rowD))) S := by kernel_rfl
theorem s_Lsimple_6_8 : callN L.tab (j + 1) 36 [.str (FS 6), .int (8 : Nat)] S = .ok (.own (.lst ((simR 6 8).map rowD))) S := by kernel_rfl
theorem s_Lsimple_6_16 : callN L.tab (j + 1) 36 [.str (FS 6), .int (16 : Nat)] S = .ok (.own (.lst ((simR 6 16).map rowD))) S := by kernel_rfl
theorem s_Lsimple {f n : Nat} (hf : f < 7) (hn : n ∈ NS) : callN L.tab (j + 1) 36 [.str (FS f), .int n] S = .ok (.own (.lst ((simR f n).map rowD))) S := by
  unfold NS at hn
  simp only [List.mem_cons, List.mem_nil_iff, or_false] at hn
  obtain rfl | rfl | rfl | rfl | rfl | rfl | rfl : f = 0 ∨ f = 1 ∨ f = 2 ∨ f = 3 ∨ f = 4 ∨ f = 5 ∨ f = 6 := by omega
  · rcases hn with rfl | rfl | rfl | rfl | rfl | rfl | rfl | rfl | rfl
    · exact s_Lsimple_0_1 j S
    · exact s_Lsimple_0_2 j S
    · exact s_Lsimple_0_3 j S
    · exact s_Lsimple_0_4 j S
    · exact s_Lsimple_0_5 j S
    · exact s_Lsimple_0_6 j S
    · exact s_Lsimple_0_7 j S
    · exact s_Lsimple_0_8 j S
    · exact s_Lsimple_0_16 j S
  · rcases hn with rfl | rfl | rfl | rfl | rfl | rfl | rfl | rfl | rfl
    · exact s_Lsimple_1_1 j S
    · exact s_Lsimple_1_2 j S
    · exact s_Lsimple_1_3 j S
    · exact s_Lsimple_1_4 j S
    · exact s_Lsimple_1_5 j S
    · exact s_Lsimple_1_6 j S
    · exact s_Lsimple_1_7 j S
    · exact s_Lsimple_1_8 j S
    · exact s_Lsimple_1_16 j S
  · rcases hn with rfl | rfl | rfl | rfl | rfl | rfl | rfl | rfl | rfl
    · exact s_Lsimple_2_1 j S
    · exact s_Lsimple_2_2 j S
    · exact s_Lsimple_2_3 j S
    · exact s_Lsimple_2_4 j S
    · exact s_Lsimple_2_5 j S
    · exact s_Lsimple_2_6 j S
    · exact s_Lsimple_2_7 j S
    · exact s_Lsimple_2_8 j S
    · exact s_Lsimple_2_16 j S
  · rcases hn with rfl | rfl | rfl | rfl | rfl | rfl | rfl | rfl | rfl
    · exact s_Lsimple_3_1 j S
    · exact s_Lsimple_3_2 j S
    · exact s_Lsimple_3_3 j S
    · exact s_Lsimple_3_4 j S
    · exact s_Lsimple_3_5 j S
    · exact s_Lsimple_3_6 j S
    · exact s_Lsimple_3_7 j S
    · exact s_Lsimple_3_8 j S
    · exact s_Lsimple_3_16 j S
  · rcases hn with rfl | rfl | rfl | rfl | rfl | rfl | rfl | rfl | rfl
    · exact s_Lsimple_4_1 j S
    · exact s_Lsimple_4_2 j S
    · exact s_Lsimple_4_3 j S
    · exact s_Lsimple_4_4 j S
    · exact s_Lsimple_4_5 j S
    · exact s_Lsimple_4_6 j S
    · exact s_Lsimple_4_7 j S
    · exact s_Lsimple_4_8 j S
    · exact s_Lsimple_4_16 j S
  · rcases hn with rfl | rfl | rfl | rfl | rfl | rfl | rfl | rfl | rfl
    · exact s_Lsimple_5_1 j S
    · exact s_Lsimple_5_2 j S
    · exact s_Lsimple_5_3 j S
    · exact s_Lsimple_5_4 j S
    · exact s_Lsimple_5_5 j S
    · exact s_Lsimple_5_6 j S
    · exact s_Lsimple_5_7 j S
    · exact s_Lsimple_5_8 j S
    · exact s_Lsimple_5_16 j S
  · rcases hn with rfl | rfl | rfl | rfl | rfl | rfl | rfl | rfl | rfl
    · exact s_Lsimple_6_1 j S
    · exact s_Lsimple_6_2 j S
    · exact s_Lsimple_6_3 j S
    · exact s_Lsimple_6_4 j S
    · exact s_Lsimple_6_5 j S
    · exact s_Lsimple_6_6 j S
    · exact s_Lsimple_6_7 j S
    · exact s_Lsimple_6_8 j S
    · exact s_Lsimple_6_16 j S
end
end K06

set_option maxHeartbeats 4000000
namespace K06
open PySem R
/-! ### worst -/
section
variable (j : Nat) {two : Bool} {T : Tb3}
theorem cl_Game : L.tab.cls 6 = true := rfl
abbrev gmD (two : Bool) (f : Nat) : D := .ins 6 [.str (rl two), .str (FS f)]
abbrev gmO (two : Bool) (f : Nat) : O := .ins 6 [.str (rl two), .str (FS f)]
theorem s_Game (S : Store) (two : Bool) {f : Nat} (hf : f < 7) : callN L.tab (j + 3) 6 [.str (rl two), .str (FS f)] S = .ok (.own (gmO two f)) S := by
  obtain rfl | rfl | rfl | rfl | rfl | rfl | rfl : f = 0 ∨ f = 1 ∨ f = 2 ∨ f = 3 ∨ f = 4 ∨ f = 5 ∨ f = 6 := by omega
  all_goals cases two <;> kernel_rfl
theorem s_check_number (S : Store) {n : Nat} (hn : n ∈ NS) : callN L.tab (j + 3) 5 [.int n, .int 16] S = .ok (.val .non) S := by
  unfold NS at hn
  simp only [List.mem_cons, List.mem_nil_iff, or_false] at hn
  rcases hn with rfl | rfl | rfl | rfl | rfl | rfl | rfl | rfl | rfl <;> kernel_rfl
/-- a row's least lead -/
abbrev VR (two : Bool) (T : Tb3) (fr : Bool) (r : List Int) : Int := V r two T (fst0 r fr)
def leastR (two : Bool) (T : Tb3) (fr : Bool) (f n : Nat) : Int := minO ((simR f n).map (VR two T fr))
theorem ns_le {n : Nat} (hn : n ∈ NS) : n ≤ 16 ∧ 1 ≤ n := by
  unfold NS at hn
  simp only [List.mem_cons, List.mem_nil_iff, or_false] at hn
  rcases hn with rfl | rfl | rfl | rfl | rfl | rfl | rfl | rfl | rfl <;> decide
theorem brg_idx0 (ws : List Int) (fr : Bool) : idxop (brgD ws two T fr) (.int 0) = some (.int (VR two T fr ws)) := rfl
theorem brg_idx1 (ws : List Int) (fr : Bool) : idxop (brgD ws two T fr) (.int 1) = some (seqD (gpath ws two T ws.length (fst0 ws fr))) := rfl
abbrev plnD (T : Tb3) : D := .ins 7 [.dct (tabD T)]
theorem s_least_with (hT : okTb T) (fr : Bool) {f n : Nat} (hf : f < 7) (hn : n ∈ NS) {S : Store} (h : IsRow S) : ∃ S', IsRow S' ∧ callN L.tab (j + 46) 29 [gmD two f, plnD T, .str (whS fr), .int n] S = .ok (.val (.int (leastR two T fr f n))) S' := by
  have es := s_simple (j + 43) S hf hn
  have hfew := sim_few f (List.mem_range.mpr hf) n hn
  obtain ⟨S', hr, e⟩ := it_mapS (f := compF L.tab (callN L.tab (j + 45)) [4] [4] (.cst (.bl true)) .nil (.idx (.call 28 (.cons (.var 1) (.cons (.fld 6 0 (.var 0)) (.cons (.var 2) (.cons (.var 4) .nil))))) (.cst (.int 0))) [.val (gmD two f), .val (plnD T), .val (.str (whS fr)), .val (.int n), .un]) (h := rowD) (g := fun r => D.int (VR two T fr r)) IsRow
    (simR f n) [] S h (by show 0 + _ < 1000000; omega) (fun r hr ys S1 h1 hy => by
      obtain ⟨kvs, e1⟩ := s_brought j S1 (two := two) (T := T) (ws := r) hT (by rw [simR_len hr]; have := ns_le hn; omega) fr
      exact ⟨_, h1.app [.dct kvs], comp_turnG (ρ1 := [.val (gmD two f), .val (plnD T), .val (.str (whS fr)), .val (.int n), .val (rowD r)]) rfl (ev_idx (ev_call (ds := [plnD T, .str (rl two), .str (whS fr), rowD r]) (el_cons (var_at rfl) rfl (el_cons (ev_fld (ds := [.str (rl two), .str (FS f)]) (var_at rfl) rfl cl_Game rfl) rfl (el_cons (var_at rfl) rfl (el_cons (var_at rfl) rfl el_nil)))) e1) ev_cst rfl rfl (brg_idx0 r fr)) rfl hy⟩)
  rw [List.nil_append] at e
  refine ⟨S', hr, ?_⟩
  show runFd L.tab (callN L.tab (j + 45)) fleast_with [gmD two f, plnD T, .str (whS fr), .int n] S = _
  rw [run_def rfl rfl]
  show outF (exT _ _ tleast_with_0 [.val (gmD two f), .val (plnD T), .val (.str (whS fr)), .val (.int n), .un] S) = _
  unfold tleast_with_0
  have hne := sim_ne f (List.mem_range.mpr hf) n hn
  have hm := minL_int (ns := (simR f n).map (VR two T fr)) (by simpa using hne)
  rw [List.map_map] at hm
  have c := ev_blt (X := L.tab) (C := callN L.tab (j + 45)) (bi := 5) (d := .int (leastR two T fr f n)) (ev_compN (ev_seqI (e := .call 11 (.cons (.fld 6 1 (.var 0)) (.cons (.var 3) .nil))) (r := .own (.lst ((simR f n).map rowD))) (ρ := [.val (gmD two f), .val (plnD T), .val (.str (whS fr)), .val (.int n), .un]) (ev_call (ds := [.str (FS f), .int n]) (el_cons (ev_fld (ds := [.str (rl two), .str (FS f)]) (var_at rfl) rfl cl_Game rfl) rfl (el_cons (var_at rfl) rfl el_nil)) es) rfl) (by rw [List.length_map]; omega) e) rfl (by
    show (minL ((simR f n).map fun r => D.int (VR two T fr r))).map _ = _
    rw [show ((simR f n).map fun r => D.int (VR two T fr r)) = (simR f n).map (D.int ∘ VR two T fr) from rfl, hm]
    rfl)
  rw [sqR (ex_ret c)]
  rfl
/-- the least row with the least lead -/
def worstR (two : Bool) (T : Tb3) (fr : Bool) (f n : Nat) : Option (List Int) := (simR f n).find? fun r => decide (VR two T fr r = leastR two T fr f n)
theorem worstR_some (two : Bool) (T : Tb3) (fr : Bool) {f n : Nat} (hf : f < 7) (hn : n ∈ NS) : ∃ r, worstR two T fr f n = some r ∧ r ∈ simR f n ∧ VR two T fr r = leastR two T fr f n := by
  have hne := sim_ne f (List.mem_range.mpr hf) n hn
  obtain ⟨r, hr, e⟩ := List.mem_map.mp (minO_mem (xs := (simR f n).map (VR two T fr)) (by simpa using hne))
  have : (worstR two T fr f n).isSome = true := by
    unfold worstR
    rw [List.find?_isSome]
    exact ⟨r, hr, decide_eq_true e⟩
  obtain ⟨r', e'⟩ := Option.isSome_iff_exists.mp this
  exact ⟨r', e', List.mem_of_find?_eq_some e', of_decide_eq_true (List.find?_some (p := fun r => decide (VR two T fr r = leastR two T fr f n)) e')⟩
def worstD (two : Bool) (T : Tb3) (fr : Bool) (f n : Nat) (r : List Int) : D := .tup [.int (leastR two T fr f n), rowD r, seqD (gpath r two T r.length (fst0 r fr))]
theorem s_worst (hT : okTb T) (fr : Bool) {f n : Nat} (hf : f < 7) (hn : n ∈ NS) {r : List Int} (hw : worstR two T fr f n = some r) {S : Store} (h : IsRow S) : ∃ S', IsRow S' ∧ callN L.tab (j + 47) 30 [gmD two f, plnD T, .str (whS fr), .int n] S = .ok (.val (worstD two T fr f n r)) S' := by
  have hmem : r ∈ simR f n := List.mem_of_find?_eq_some hw
  have c1 := s_check_who (j + 44) S fr
  have c2 := s_check_number (j + 43) S hn
  obtain ⟨S1, r1, c3⟩ := s_least_with (two := two) j hT fr hf hn h
  have es := s_simple (j + 44) S1 hf hn
  have hfew := sim_few f (List.mem_range.mpr hf) n hn
  obtain ⟨S2, r2, e⟩ := it_filtS (f := compF L.tab (callN L.tab (j + 46)) [6] [6] (.cmp .eq (.idx (.call 28 (.cons (.var 1) (.cons (.fld 6 0 (.var 0)) (.cons (.var 2) (.cons (.var 6) .nil))))) (.cst (.int 0))) (.var 4)) .nil (.var 6) [.val (gmD two f), .val (plnD T), .val (.str (whS fr)), .val (.int n), .val (.int (leastR two T fr f n)), .un, .un]) (h := rowD) (g := rowD) (p := fun r => decide (VR two T fr r = leastR two T fr f n)) IsRow
    (simR f n) [] S1 r1 (by show 0 + _ < 1000000; omega) (fun r hr ys S1 h1 hy => by
      obtain ⟨kvs, e1⟩ := s_brought (j + 1) S1 (two := two) (T := T) (ws := r) hT (by rw [simR_len hr]; have := ns_le hn; omega) fr
      exact ⟨_, h1.app [.dct kvs], comp_turnC (ρ1 := [.val (gmD two f), .val (plnD T), .val (.str (whS fr)), .val (.int n), .val (.int (leastR two T fr f n)), .un, .val (rowD r)]) rfl (ev_cmp (ev_idx (ev_call (ds := [plnD T, .str (rl two), .str (whS fr), rowD r]) (el_cons (var_at rfl) rfl (el_cons (ev_fld (ds := [.str (rl two), .str (FS f)]) (var_at rfl) rfl cl_Game rfl) rfl (el_cons (var_at rfl) rfl (el_cons (var_at rfl) rfl el_nil)))) e1) ev_cst rfl rfl (brg_idx0 r fr)) (var_at rfl) rfl rfl (cmp_eqI _ _)) (fun _ => var_at rfl) rfl hy⟩)
  rw [List.nil_append] at e
  obtain ⟨kvs, e3⟩ := s_brought (j + 1) S2 (two := two) (T := T) (ws := r) hT (by rw [simR_len hmem]; have := ns_le hn; omega) fr
  refine ⟨_, r2.app [.dct kvs], ?_⟩
  show runFd L.tab (callN L.tab (j + 46)) fworst [gmD two f, plnD T, .str (whS fr), .int n] S = _
  rw [run_def rfl rfl]
  show outF (exT _ _ tworst_4 [.val (gmD two f), .val (plnD T), .val (.str (whS fr)), .val (.int n), .un, .un, .un] S) = _
  unfold tworst_4
  rw [sq (ex_expr (ev_call (ds := [.str (whS fr)]) rfl c1)) rfl]
  unfold tworst_3
  rw [sq (ex_expr (ev_call (ds := [.int n, .int 16]) rfl c2)) rfl]
  unfold tworst_2
  rw [sq (S1 := S1) (ρ1 := [.val (gmD two f), .val (plnD T), .val (.str (whS fr)), .val (.int n), .val (.int (leastR two T fr f n)), .un, .un]) (ex_asg (ev_call (ds := [gmD two f, plnD T, .str (whS fr), .int n]) rfl c3) rfl rfl) rfl]
  unfold tworst_1
  have i0 : idxop (.lst (((simR f n).filter fun r => decide (VR two T fr r = leastR two T fr f n)).map rowD)) (.int 0) = some (rowD r) := by
    have : (((simR f n).filter fun r => decide (VR two T fr r = leastR two T fr f n)).map rowD)[0]? = some (rowD r) := by
      rw [List.getElem?_map, ← List.head?_eq_getElem?, List.head?_filter]
      unfold worstR at hw
      rw [hw]
      rfl
    exact at_nat (k := 0) this
  rw [sq (S1 := S2) (ρ1 := [.val (gmD two f), .val (plnD T), .val (.str (whS fr)), .val (.int n), .val (.int (leastR two T fr f n)), .val (rowD r), .un]) (ex_asg (ev_idx (ev_compN (ev_seqI (e := .call 11 (.cons (.fld 6 1 (.var 0)) (.cons (.var 3) .nil))) (r := .own (.lst ((simR f n).map rowD))) (ev_call (ds := [.str (FS f), .int n]) (el_cons (ev_fld (ds := [.str (rl two), .str (FS f)]) (var_at rfl) rfl cl_Game rfl) rfl (el_cons (var_at rfl) rfl el_nil)) es) rfl) (by rw [List.length_map]; omega) e) ev_cst rfl rfl i0) rfl rfl) rfl]
  unfold tworst_0
  refine (congrArg outF (sqR (S1 := S2 ++ [.dct kvs]) (r := .val (worstD two T fr f n r)) (ex_ret (ev_tup (xs := [.int (leastR two T fr f n), rowD r, seqD (gpath r two T r.length (fst0 r fr))]) (el_cons (var_at rfl) rfl (el_cons (var_at rfl) rfl (el_cons (ev_idx (ev_call (ds := [plnD T, .str (rl two), .str (whS fr), rowD r]) (el_cons (var_at rfl) rfl (el_cons (ev_fld (ds := [.str (rl two), .str (FS f)]) (var_at rfl) rfl cl_Game rfl) rfl (el_cons (var_at rfl) rfl (el_cons (var_at rfl) rfl el_nil)))) e3) ev_cst rfl rfl (brg_idx1 r fr)) rfl el_nil))) (by show 3 ≤ 1000000; decide))))).trans rfl
/-! refusals -/
theorem told_who (S : Store) (g p : D) (r : Int) (h0 : 0 ≤ r) (h1 : r < 2) : ∃ d, idxop (.lst [.str "third", .non]) (.int r) = some d ∧ callN L.tab (j + 8) 43 [g, p, d, .non] S = .ok (.val (.str "who")) S := by
  obtain rfl | rfl : r = 0 ∨ r = 1 := by omega
  · exact ⟨.str "third", rfl, by kernel_rfl⟩
  · exact ⟨.non, rfl, by kernel_rfl⟩
theorem told_num (S : Store) (g p : D) (fr : Bool) (r : Int) (h0 : 0 ≤ r) (h1 : r < 6) : ∃ d, idxop (.lst [.int 0, .int 17, .int (-1), .bl true, .non, .str "3"]) (.int r) = some d ∧ callN L.tab (j + 8) 43 [g, p, .str (whS fr), d] S = .ok (.val (.str "number")) S := by
  obtain rfl | rfl | rfl | rfl | rfl | rfl : r = 0 ∨ r = 1 ∨ r = 2 ∨ r = 3 ∨ r = 4 ∨ r = 5 := by omega
  · exact ⟨.int 0, rfl, by cases fr <;> kernel_rfl⟩
  · exact ⟨.int 17, rfl, by cases fr <;> kernel_rfl⟩
  · exact ⟨.int (-1), rfl, by cases fr <;> kernel_rfl⟩
  · exact ⟨.bl true, rfl, by cases fr <;> kernel_rfl⟩
  · exact ⟨.non, rfl, by cases fr <;> kernel_rfl⟩
  · exact ⟨.str "3", rfl, by cases fr <;> kernel_rfl⟩
end
end K06

set_option maxHeartbeats 4000000
namespace K06
open PySem R
/-! ### the law -/
section
variable (j : Nat) {two fr : Bool}
abbrev lwE (two fr : Bool) (sc x2 x5 x6 x7 x8 x9 x10 x11 x12 x13 x14 x15 : Sl) : REnv := [sc, .val (.obj 0), x2, .val (.str (rl two)), .val (.str (whS fr)), x5, x6, x7, x8, x9, x10, x11, x12, x13, x14, x15, .un, .un]
theorem rule_of {r : Int} (h0 : 0 ≤ r) (h1 : r < 2) : ∃ two, idxop (.lst [.str "one", .str "two"]) (.int r) = some (.str (rl two)) := by
  obtain rfl | rfl : r = 0 ∨ r = 1 := by omega
  · exact ⟨false, rfl⟩
  · exact ⟨true, rfl⟩
theorem who_of {r : Int} (h0 : 0 ≤ r) (h1 : r < 2) : ∃ fr, idxop (.lst [.str "first", .str "second"]) (.int r) = some (.str (whS fr)) := by
  obtain rfl | rfl : r = 0 ∨ r = 1 := by omega
  · exact ⟨true, rfl⟩
  · exact ⟨false, rfl⟩
theorem fact_of {r : Int} (h0 : 0 ≤ r) (h1 : r < 7) : ∃ f, f < 7 ∧ idxop (.lst (facts.map D.str)) (.int r) = some (.str (FS f)) := by
  obtain rfl | rfl | rfl | rfl | rfl | rfl | rfl : r = 0 ∨ r = 1 ∨ r = 2 ∨ r = 3 ∨ r = 4 ∨ r = 5 ∨ r = 6 := by omega
  · exact ⟨0, by decide, by kernel_rfl⟩
  · exact ⟨1, by decide, by kernel_rfl⟩
  · exact ⟨2, by decide, by kernel_rfl⟩
  · exact ⟨3, by decide, by kernel_rfl⟩
  · exact ⟨4, by decide, by kernel_rfl⟩
  · exact ⟨5, by decide, by kernel_rfl⟩
  · exact ⟨6, by decide, by kernel_rfl⟩
theorem s_Lfacts (S : Store) : callN L.tab (j + 1) 35 [] S = .ok (.own (.lst (facts.map D.str))) S := by kernel_rfl
theorem ns_of {r : Int} (h0 : 0 ≤ r) (h1 : r < 8) : ∃ n : Nat, n ∈ NS ∧ n ≤ 8 ∧ 1 + r = (n : Int) := by
  refine ⟨(1 + r).toNat, ?_, by omega, by omega⟩
  obtain rfl | rfl | rfl | rfl | rfl | rfl | rfl | rfl : r = 0 ∨ r = 1 ∨ r = 2 ∨ r = 3 ∨ r = 4 ∨ r = 5 ∨ r = 6 ∨ r = 7 := by omega
  all_goals decide
theorem worst_min (two : Bool) (T : Tb3) (fr : Bool) {f n : Nat} (hf : f < 7) (hn : n ∈ NS) {r : List Int} (hw : worstR two T fr f n = some r) : minL (((simR f n).map fun r => (VR two T fr r, r)).map prD) = some (prD (leastR two T fr f n, r)) := by
  have hmem : r ∈ simR f n := List.mem_of_find?_eq_some hw
  have hv : VR two T fr r = leastR two T fr f n := of_decide_eq_true (List.find?_some (p := fun r => decide (VR two T fr r = leastR two T fr f n)) hw)
  refine minL_pr (List.mem_map.mpr ⟨r, hmem, by rw [hv]⟩) fun p hp => ?_
  obtain ⟨q, hq, rfl⟩ := List.mem_map.mp hp
  have h1 : leastR two T fr f n ≤ VR two T fr q := minO_le (List.mem_map.mpr ⟨q, hq, rfl⟩)
  by_cases he : VR two T fr q = leastR two T fr f n
  · rcases find_first (sim_asc f (List.mem_range.mpr hf) n hn) hw hq (decide_eq_true he) with h | h
    · exact .inl (by show (VR two T fr q, q) = (leastR two T fr f n, r); rw [he, h])
    · exact .inr (.inr ⟨he.symm, h⟩)
  · exact .inr (.inl (by show leastR two T fr f n < VR two T fr q; omega))
theorem fl_row (r : List Int) (k : Nat) : Fl (k + 1) (rowD r) := .tup fun x hx => by
  obtain ⟨i, _, rfl⟩ := List.mem_map.mp hx
  exact .int _ _
theorem fl_worst {T : Tb3} (hT : okTb T) (two fr : Bool) (f n : Nat) (r : List Int) : Fl 3 (worstD two T fr f n r) := .tup fun x hx => by
  simp only [List.mem_cons, List.mem_nil_iff, or_false] at hx
  rcases hx with rfl | rfl | rfl
  · exact .int _ _
  · exact fl_row r 1
  · exact fl_seq (gpath_ok hT _ _ (.inr (.inl rfl))) 0
theorem turn {S : Store} (h : IsRow S) (sc x2 x5 x6 x7 x8 x9 x10 x11 x12 x13 x14 x15 : Sl) (p5 : plainS x5 = true) (p6 : plainS x6 = true) (p7 : plainS x7 = true) (p8 : plainS x8 = true) (p9 : plainS x9 = true) (p10 : plainS x10 = true) (p11 : plainS x11 = true) (p12 : plainS x12 = true) (p13 : plainS x13 = true) (p14 : plainS x14 = true) (p15 : plainS x15 = true) :
    ∃ S' y5 y6 y7 y8 y12 y15 T f, IsRow S' ∧ plainS y5 = true ∧ plainS y6 = true ∧ plainS y7 = true ∧ plainS y8 = true ∧ plainS y12 = true ∧ plainS y15 = true ∧ okTb T ∧ f < 7 ∧
      exT L.tab (callN L.tab (j + 47)) tlaw_13 (lwE two fr sc x2 x5 x6 x7 x8 x9 x10 x11 x12 x13 x14 x15) S = .nx (lwE two fr sc x2 y5 y6 y7 y8 x9 (.val (.dct (tabD T))) (.val (.str (FS f))) y12 (.val (gmD two f)) (.val (plnD T)) y15) S' := by
  obtain ⟨S1, T, r1, _, hT, e1⟩ := s_Ltable (j + 45) h two
  obtain ⟨S2, r2', r2, _, u2, v2, e2⟩ := s_pickR (j + 46) r1 7 (by decide) (by decide)
  obtain ⟨f, hf, ef⟩ := fact_of u2 v2
  obtain ⟨S3, r3', r3, _, u3, v3, e3⟩ := s_pickR (j + 46) r2 8 (by decide) (by decide)
  obtain ⟨n, hn, hn8, en⟩ := ns_of u3 v3
  obtain ⟨r, hw, hmem, hv⟩ := worstR_some two T fr hf hn
  have hrl := simR_len hmem
  have hr : rest (fst0 r fr) = n := by show (r.length : Int) - 0 = _; omega
  have hfew := sim_few f (List.mem_range.mpr hf) n hn
  have eg := s_Game (j + 44) S3 two hf
  have ep := s_Plan (j + 42) S3 hT
  have es := s_Lsimple (j + 46) S3 hf hn
  obtain ⟨ρ', S4, hl, y5, y8, q5, q8, r4, rfl⟩ := for_at (f := stepF L.tab (callN L.tab (j + 47)) [5] tlaw_1) (fun i ρ S' => ∃ y5 y8, plainS y5 = true ∧ plainS y8 = true ∧ IsRow S' ∧ ρ = lwE two fr sc x2 y5 x6 x7 y8 x9 (.val (.dct (tabD T))) (.val (.str (FS f))) (.val (.int n)) (.val (gmD two f)) (.val (plnD T)) (.own (.lst ((((simR f n).take i).map fun r => (VR two T fr r, r)).map prD))))
    ((simR f n).map rowD) 0 (ρ := lwE two fr sc x2 x5 x6 x7 x8 x9 (.val (.dct (tabD T))) (.val (.str (FS f))) (.val (.int n)) (.val (gmD two f)) (.val (plnD T)) (.own (.lst []))) (S := S3) (fun i x ρ S' hx hI => by
      obtain ⟨y5, y8, q5, q8, r4, rfl⟩ := hI
      obtain ⟨q, hq, rfl⟩ := at_map hx
      have hqm : q ∈ simR f n := List.mem_of_getElem? hq
      obtain ⟨kvs, e⟩ := s_Lbrought (j + 4) S' (two := two) (T := T) (ws := q) hT (by rw [simR_len hqm]; omega) fr
      rw [Nat.zero_add, take_at hq, List.map_append, List.map_append]
      refine ⟨_, _, ?_, .val (rowD q), .val (.int (VR two T fr q)), rfl, rfl, r4.app [.dct kvs], rfl⟩
      show exT L.tab (callN L.tab (j + 47)) tlaw_1 (lwE two fr sc x2 (.val (rowD q)) x6 x7 y8 x9 (.val (.dct (tabD T))) (.val (.str (FS f))) (.val (.int n)) (.val (gmD two f)) (.val (plnD T)) (.own (.lst ((((simR f n).take i).map fun r => (VR two T fr r, r)).map prD)))) S' = _
      unfold tlaw_1
      refine sq (S1 := S' ++ [O.dct kvs]) (ρ1 := lwE two fr sc x2 (.val (rowD q)) x6 x7 (.val (.int (VR two T fr q))) x9 (.val (.dct (tabD T))) (.val (.str (FS f))) (.val (.int n)) (.val (gmD two f)) (.val (plnD T)) (.own (.lst ((((simR f n).take i).map fun r => (VR two T fr r, r)).map prD)))) (ex_asg (ev_call (ds := [.dct (tabD T), .str (rl two), .str (whS fr), rowD q]) rfl e) rfl (by simp only [lwE, exT, evE, evL, evI, evM, Out.bind_ok, Out.thn_ok, Out.bind_exc, Out.thn_exc, Out.nox, OutS.thn_nx, OutS.thn_rt, OutS.thn_exc, outF, List.getElem?_cons_zero, List.getElem?_cons_succ, List.getElem?_nil, vw_int, vw_bl, vw_non, vw_str, vw_tup, vw_lst, vw_dct, vw_ins, vw_scr, vw_obj, vw_own, vw_tmp, d_lst, d_dct, d_ins, fz_val, fz_own, lk_val, lk_own, lk_tmp, sq_tup, sq_lst, vw_sp, vw_mv, vw_row, List.all_cons, List.all_nil, free1_eq, plainS_val, plainS_un, plainS_lst, plainS_dct, Option.getD_some, notIns, putAll, putM, put, putT, List.map_cons, List.map_nil, List.set_cons_zero, List.set_cons_succ, List.length_cons, List.length_nil, List.nil_append, List.cons_append, Bool.and_self, Bool.and_true, Bool.true_and, Bool.and_false, Bool.false_and, Bool.not_true, Bool.not_false, if_true, ite_true, ite_false, beq_self_eq_true, Option.bind_some, Option.map_some, Nat.zero_add, Nat.reduceAdd, Nat.reduceBEq, Nat.reduceLeDiff, Nat.reduceLT, Nat.reduceEqDiff, decide_true, decide_false, I.stays, vI, vB, reduceIte, Bool.false_eq_true, Bool.true_eq_false, lim, b_addI, b_subI, cmpop_lt, cmpop_le, cmpop_gt, cmpop_ge, cmpop_eq, cmpop_ne, isNon, Bool.bne_true, Bool.bne_false, bne_false2, bne_true2, q8])) ?_
      unfold tlaw_0
      refine sq (ex_appO (d := prD (VR two T fr q, q)) (r := .val (prD (VR two T fr q, q))) (xs := (((simR f n).take i).map fun r => (VR two T fr r, r)).map prD) rfl (ev_tup (xs := [.int (VR two T fr q), rowD q]) (el_cons (var_at rfl) rfl (el_cons (var_at rfl) rfl el_nil)) (by show 2 ≤ 1000000; decide)) rfl (by
        rw [List.length_map, List.length_map]
        have : ((simR f n).take i).length ≤ (simR f n).length := List.length_take_le' ..
        show _ < 1000000
        omega)) ?_
      rw [exT]
      rfl) ⟨x5, x8, p5, p8, r3, rfl⟩
  rw [Nat.zero_add, List.length_map, List.take_length] at hl
  have hmin := worst_min two T fr hf hn hw
  have e6 := s_Lplays (j + 36) S4 (two := two) hT 9 (fst0 r fr) (ws := r) (Int.le_refl _) (by show (0 : Int) ≤ r.length; omega) (Int.le_refl _) (.inr (.inl rfl)) (by omega) (by omega) (Nat.le_refl _)
  have hsm := plays_small (ws := r) (two := two) hT (k := 9) (st := fst0 r fr) (.inr (.inl rfl)) (by omega) (by omega) (by omega)
  have hpf := plays_first (ws := r) (two := two) hT (k := 9) (st := fst0 r fr) (.inr (.inl rfl)) (by omega) (by omega)
  rw [gpath_eq hT 9 r.length (fst0 r fr) (.inr (.inl rfl)) (by omega) (by omega)] at hpf
  have e7 := it_filt (f := compF L.tab (callN L.tab (j + 47)) [17, 9] [17, 9] (.cmp .eq (.var 17) (.var 8)) .nil (.var 9) (lwE two fr sc x2 (.val (rowD r)) (.val (.lst ((plays r two T 9 (fst0 r fr)).map plD))) x7 (.val (.int (leastR two T fr f n))) x9 (.val (.dct (tabD T))) (.val (.str (FS f))) (.val (.int n)) (.val (gmD two f)) (.val (plnD T)) (.own (.lst (((simR f n).map fun r => (VR two T fr r, r)).map prD))))) (h := plD) (g := fun p => seqD p.2) (p := fun p => decide (p.1 = V r two T (fst0 r fr))) (S := S4) (plays r two T 9 (fst0 r fr)) [] (by show 0 + _ < 1000000; omega) (fun p hp ys hy => by
    have hv' : leastR two T fr f n = V r two T (fst0 r fr) := hv.symm
    rw [← hv']
    exact comp_turnC (ρ1 := [sc, .val (.obj 0), x2, .val (.str (rl two)), .val (.str (whS fr)), .val (rowD r), .val (.lst ((plays r two T 9 (fst0 r fr)).map plD)), x7, .val (.int (leastR two T fr f n)), .val (seqD p.2), .val (.dct (tabD T)), .val (.str (FS f)), .val (.int n), .val (gmD two f), .val (plnD T), .own (.lst (((simR f n).map fun r => (VR two T fr r, r)).map prD)), .un, .val (.int p.1)]) rfl (ev_cmp (var_at rfl) (var_at rfl) rfl rfl (cmp_eqI _ _)) (fun _ => var_at rfl) rfl hy)
  rw [List.nil_append] at e7
  obtain ⟨S5, r5, e8⟩ := s_worst (two := two) j hT fr hf hn hw r4
  obtain ⟨S6, r6', r6, _, u6, v6, e9⟩ := s_pickR (j + 46) r5 2 (by decide) (by decide)
  obtain ⟨dw, edw, e10⟩ := told_who (j + 39) S6 (gmD two f) (plnD T) r6' u6 v6
  obtain ⟨S7, r7', r7, _, u7, v7, e11⟩ := s_pickR (j + 46) r6 6 (by decide) (by decide)
  obtain ⟨dn, edn, e12⟩ := told_num (j + 39) S7 (gmD two f) (plnD T) fr r7' u7 v7
  refine ⟨S7, .val (rowD r), .val (.lst ((plays r two T 9 (fst0 r fr)).map plD)), .val (worstD two T fr f n r), .val (.int (leastR two T fr f n)), .val (.int n), .own (.lst (((simR f n).map fun r => (VR two T fr r, r)).map prD)), T, f, r7, rfl, rfl, rfl, rfl, rfl, rfl, hT, hf, ?_⟩
  unfold tlaw_13
  refine sq (S1 := S3) (ρ1 := lwE two fr sc x2 x5 x6 x7 x8 x9 (.val (.dct (tabD T))) (.val (.str (FS f))) (.val (.int n)) x13 x14 x15) (ex_par (ds := [.dct (tabD T), .str (FS f), .int n]) (el_cons (ev_call (ds := [.obj 0, .str (rl two)]) rfl e1) rfl (el_cons (ev_idx (ra := .own (.lst (facts.map D.str))) (ev_call (ds := []) el_nil (s_Lfacts (j + 46) S1)) (ev_call (ds := [.obj 0, .int 7]) rfl e2) rfl rfl ef) rfl (el_cons (r := .val (.int n)) (ev_bin (ra := .val (.int 1)) ev_cst (ev_call (ds := [.obj 0, .int 8]) rfl e3) rfl rfl (by rw [b_addI, en])) rfl el_nil))) (by simp only [lwE, exT, evE, evL, evI, evM, Out.bind_ok, Out.thn_ok, Out.bind_exc, Out.thn_exc, Out.nox, OutS.thn_nx, OutS.thn_rt, OutS.thn_exc, outF, List.getElem?_cons_zero, List.getElem?_cons_succ, List.getElem?_nil, vw_int, vw_bl, vw_non, vw_str, vw_tup, vw_lst, vw_dct, vw_ins, vw_scr, vw_obj, vw_own, vw_tmp, d_lst, d_dct, d_ins, fz_val, fz_own, lk_val, lk_own, lk_tmp, sq_tup, sq_lst, vw_sp, vw_mv, vw_row, List.all_cons, List.all_nil, free1_eq, plainS_val, plainS_un, plainS_lst, plainS_dct, Option.getD_some, notIns, putAll, putM, put, putT, List.map_cons, List.map_nil, List.set_cons_zero, List.set_cons_succ, List.length_cons, List.length_nil, List.nil_append, List.cons_append, Bool.and_self, Bool.and_true, Bool.true_and, Bool.and_false, Bool.false_and, Bool.not_true, Bool.not_false, if_true, ite_true, ite_false, beq_self_eq_true, Option.bind_some, Option.map_some, Nat.zero_add, Nat.reduceAdd, Nat.reduceBEq, Nat.reduceLeDiff, Nat.reduceLT, Nat.reduceEqDiff, decide_true, decide_false, I.stays, vI, vB, reduceIte, Bool.false_eq_true, Bool.true_eq_false, lim, b_addI, b_subI, cmpop_lt, cmpop_le, cmpop_gt, cmpop_ge, cmpop_eq, cmpop_ne, isNon, Bool.bne_true, Bool.bne_false, bne_false2, bne_true2, p10, p11, p12]) rfl) ?_
  unfold tlaw_12
  refine sq (S1 := S3) (ρ1 := lwE two fr sc x2 x5 x6 x7 x8 x9 (.val (.dct (tabD T))) (.val (.str (FS f))) (.val (.int n)) (.val (gmD two f)) (.val (plnD T)) (.own (.lst []))) (ex_parM3 (s1 := .val (gmD two f)) (s2 := .val (plnD T)) (s3 := .own (.lst [])) (em_val (ev_make (ds := [.str (rl two), .str (FS f)]) rfl eg) rfl (em_val (ev_make (ds := [.dct (tabD T)]) rfl ep) rfl (em_own (o := .lst []) (ev_lst el_nil (Nat.zero_le _)) rfl em_nil))) (by simp only [lwE, exT, evE, evL, evI, evM, Out.bind_ok, Out.thn_ok, Out.bind_exc, Out.thn_exc, Out.nox, OutS.thn_nx, OutS.thn_rt, OutS.thn_exc, outF, List.getElem?_cons_zero, List.getElem?_cons_succ, List.getElem?_nil, vw_int, vw_bl, vw_non, vw_str, vw_tup, vw_lst, vw_dct, vw_ins, vw_scr, vw_obj, vw_own, vw_tmp, d_lst, d_dct, d_ins, fz_val, fz_own, lk_val, lk_own, lk_tmp, sq_tup, sq_lst, vw_sp, vw_mv, vw_row, List.all_cons, List.all_nil, free1_eq, plainS_val, plainS_un, plainS_lst, plainS_dct, Option.getD_some, notIns, putAll, putM, put, putT, List.map_cons, List.map_nil, List.set_cons_zero, List.set_cons_succ, List.length_cons, List.length_nil, List.nil_append, List.cons_append, Bool.and_self, Bool.and_true, Bool.true_and, Bool.and_false, Bool.false_and, Bool.not_true, Bool.not_false, if_true, ite_true, ite_false, beq_self_eq_true, Option.bind_some, Option.map_some, Nat.zero_add, Nat.reduceAdd, Nat.reduceBEq, Nat.reduceLeDiff, Nat.reduceLT, Nat.reduceEqDiff, decide_true, decide_false, I.stays, vI, vB, reduceIte, Bool.false_eq_true, Bool.true_eq_false, lim, b_addI, b_subI, cmpop_lt, cmpop_le, cmpop_gt, cmpop_ge, cmpop_eq, cmpop_ne, isNon, Bool.bne_true, Bool.bne_false, bne_false2, bne_true2, p13, p14, p15]) (by decide)) ?_
  unfold tlaw_11
  refine sq (ex_for (ev_seqF (r := .own (.lst ((simR f n).map rowD))) (ev_call (ds := [.str (FS f), .int n]) rfl es) rfl rfl) rfl (by simp only [lwE, exT, evE, evL, evI, evM, Out.bind_ok, Out.thn_ok, Out.bind_exc, Out.thn_exc, Out.nox, OutS.thn_nx, OutS.thn_rt, OutS.thn_exc, outF, List.getElem?_cons_zero, List.getElem?_cons_succ, List.getElem?_nil, vw_int, vw_bl, vw_non, vw_str, vw_tup, vw_lst, vw_dct, vw_ins, vw_scr, vw_obj, vw_own, vw_tmp, d_lst, d_dct, d_ins, fz_val, fz_own, lk_val, lk_own, lk_tmp, sq_tup, sq_lst, vw_sp, vw_mv, vw_row, List.all_cons, List.all_nil, free1_eq, plainS_val, plainS_un, plainS_lst, plainS_dct, Option.getD_some, notIns, putAll, putM, put, putT, List.map_cons, List.map_nil, List.set_cons_zero, List.set_cons_succ, List.length_cons, List.length_nil, List.nil_append, List.cons_append, Bool.and_self, Bool.and_true, Bool.true_and, Bool.and_false, Bool.false_and, Bool.not_true, Bool.not_false, if_true, ite_true, ite_false, beq_self_eq_true, Option.bind_some, Option.map_some, Nat.zero_add, Nat.reduceAdd, Nat.reduceBEq, Nat.reduceLeDiff, Nat.reduceLT, Nat.reduceEqDiff, decide_true, decide_false, I.stays, vI, vB, reduceIte, Bool.false_eq_true, Bool.true_eq_false, lim, b_addI, b_subI, cmpop_lt, cmpop_le, cmpop_gt, cmpop_ge, cmpop_eq, cmpop_ne, isNon, Bool.bne_true, Bool.bne_false, bne_false2, bne_true2, p5]) hl) ?_
  unfold tlaw_10
  have e5 : evE L.tab (callN L.tab (j + 47)) (.blt 5 (.peek 15)) (lwE two fr sc x2 y5 x6 x7 y8 x9 (.val (.dct (tabD T))) (.val (.str (FS f))) (.val (.int n)) (.val (gmD two f)) (.val (plnD T)) (.own (.lst (((simR f n).map fun r => (VR two T fr r, r)).map prD)))) S4 = .ok (.val (prD (leastR two T fr f n, r))) S4 :=
    ev_blt (x := .lst (((simR f n).map fun r => (VR two T fr r, r)).map prD)) (r := .tmp (.lst (((simR f n).map fun r => (VR two T fr r, r)).map prD))) (by rw [evE]; rfl) rfl (by show (minL _).map _ = _; rw [hmin]; rfl)
  refine sq (ex_tupl2 e5 (by simp only [lwE, exT, evE, evL, evI, evM, Out.bind_ok, Out.thn_ok, Out.bind_exc, Out.thn_exc, Out.nox, OutS.thn_nx, OutS.thn_rt, OutS.thn_exc, outF, List.getElem?_cons_zero, List.getElem?_cons_succ, List.getElem?_nil, vw_int, vw_bl, vw_non, vw_str, vw_tup, vw_lst, vw_dct, vw_ins, vw_scr, vw_obj, vw_own, vw_tmp, d_lst, d_dct, d_ins, fz_val, fz_own, lk_val, lk_own, lk_tmp, sq_tup, sq_lst, vw_sp, vw_mv, vw_row, List.all_cons, List.all_nil, free1_eq, plainS_val, plainS_un, plainS_lst, plainS_dct, Option.getD_some, notIns, putAll, putM, put, putT, List.map_cons, List.map_nil, List.set_cons_zero, List.set_cons_succ, List.length_cons, List.length_nil, List.nil_append, List.cons_append, Bool.and_self, Bool.and_true, Bool.true_and, Bool.and_false, Bool.false_and, Bool.not_true, Bool.not_false, if_true, ite_true, ite_false, beq_self_eq_true, Option.bind_some, Option.map_some, Nat.zero_add, Nat.reduceAdd, Nat.reduceBEq, Nat.reduceLeDiff, Nat.reduceLT, Nat.reduceEqDiff, decide_true, decide_false, I.stays, vI, vB, reduceIte, Bool.false_eq_true, Bool.true_eq_false, lim, b_addI, b_subI, cmpop_lt, cmpop_le, cmpop_gt, cmpop_ge, cmpop_eq, cmpop_ne, isNon, Bool.bne_true, Bool.bne_false, bne_false2, bne_true2, q5, q8])) ?_
  unfold tlaw_9
  have et : evE L.tab (callN L.tab (j + 47)) (.tup (.cons (.cst (.int 0)) (.cons (.var 12) .nil))) (lwE two fr sc x2 (.val (rowD r)) x6 x7 (.val (.int (leastR two T fr f n))) x9 (.val (.dct (tabD T))) (.val (.str (FS f))) (.val (.int n)) (.val (gmD two f)) (.val (plnD T)) (.own (.lst (((simR f n).map fun r => (VR two T fr r, r)).map prD)))) S4 = .ok (.val (spD (fst0 r fr).1)) S4 := by
    have hsp : spD (fst0 r fr).1 = .tup [.int 0, .int n] := by
      show D.tup [.int 0, .int (r.length : Int)] = _
      rw [hrl]
    rw [hsp]
    exact ev_tup (xs := [.int 0, .int n]) (el_cons ev_cst rfl (el_cons (var_at rfl) rfl el_nil)) (by show 2 ≤ 1000000; decide)
  refine sq (S1 := S4) (ρ1 := lwE two fr sc x2 (.val (rowD r)) (.val (.lst ((plays r two T 9 (fst0 r fr)).map plD))) x7 (.val (.int (leastR two T fr f n))) x9 (.val (.dct (tabD T))) (.val (.str (FS f))) (.val (.int n)) (.val (gmD two f)) (.val (plnD T)) (.own (.lst (((simR f n).map fun r => (VR two T fr r, r)).map prD)))) (ex_asg (ev_call (ds := [.dct (tabD T), .str (rl two), rowD r, spD (fst0 r fr).1, .str (fst0 r fr).2.1, .bl (fst0 r fr).2.2]) (el_cons (var_at rfl) rfl (el_cons (var_at rfl) rfl (el_cons (var_at rfl) rfl (el_cons et rfl (el_cons ev_cst rfl (el_cons (ev_cmp (ra := .val (.str (whS fr))) (rb := .val (.str "first")) (var_at rfl) ev_cst rfl rfl (who_cmp fr)) rfl el_nil)))))) e6) rfl (by simp only [lwE, exT, evE, evL, evI, evM, Out.bind_ok, Out.thn_ok, Out.bind_exc, Out.thn_exc, Out.nox, OutS.thn_nx, OutS.thn_rt, OutS.thn_exc, outF, List.getElem?_cons_zero, List.getElem?_cons_succ, List.getElem?_nil, vw_int, vw_bl, vw_non, vw_str, vw_tup, vw_lst, vw_dct, vw_ins, vw_scr, vw_obj, vw_own, vw_tmp, d_lst, d_dct, d_ins, fz_val, fz_own, lk_val, lk_own, lk_tmp, sq_tup, sq_lst, vw_sp, vw_mv, vw_row, List.all_cons, List.all_nil, free1_eq, plainS_val, plainS_un, plainS_lst, plainS_dct, Option.getD_some, notIns, putAll, putM, put, putT, List.map_cons, List.map_nil, List.set_cons_zero, List.set_cons_succ, List.length_cons, List.length_nil, List.nil_append, List.cons_append, Bool.and_self, Bool.and_true, Bool.true_and, Bool.and_false, Bool.false_and, Bool.not_true, Bool.not_false, if_true, ite_true, ite_false, beq_self_eq_true, Option.bind_some, Option.map_some, Nat.zero_add, Nat.reduceAdd, Nat.reduceBEq, Nat.reduceLeDiff, Nat.reduceLT, Nat.reduceEqDiff, decide_true, decide_false, I.stays, vI, vB, reduceIte, Bool.false_eq_true, Bool.true_eq_false, lim, b_addI, b_subI, cmpop_lt, cmpop_le, cmpop_gt, cmpop_ge, cmpop_eq, cmpop_ne, isNon, Bool.bne_true, Bool.bne_false, bne_false2, bne_true2, p6])) ?_
  unfold tlaw_8
  have e8' := ev_blt (X := L.tab) (C := callN L.tab (j + 47)) (bi := 5) (d := seqD (gpath r two T r.length (fst0 r fr))) (ev_compN (own := [17, 9]) (tg := [17, 9]) (c := .cmp .eq (.var 17) (.var 8)) (cs := .nil) (elt := .var 9) (ev_seqI (e := .var 6) (r := .val (.lst ((plays r two T 9 (fst0 r fr)).map plD))) (ρ := lwE two fr sc x2 (.val (rowD r)) (.val (.lst ((plays r two T 9 (fst0 r fr)).map plD))) x7 (.val (.int (leastR two T fr f n))) x9 (.val (.dct (tabD T))) (.val (.str (FS f))) (.val (.int n)) (.val (gmD two f)) (.val (plnD T)) (.own (.lst (((simR f n).map fun r => (VR two T fr r, r)).map prD)))) (S := S4) (var_at rfl) rfl) (by rw [List.length_map]; omega) e7) rfl (by show (minL _).map _ = _; rw [hpf]; rfl)
  refine sq (S1 := S4) (ρ1 := lwE two fr sc x2 (.val (rowD r)) (.val (.lst ((plays r two T 9 (fst0 r fr)).map plD))) (.val (worstD two T fr f n r)) (.val (.int (leastR two T fr f n))) x9 (.val (.dct (tabD T))) (.val (.str (FS f))) (.val (.int n)) (.val (gmD two f)) (.val (plnD T)) (.own (.lst (((simR f n).map fun r => (VR two T fr r, r)).map prD)))) (ex_asg (r := .val (worstD two T fr f n r)) (ev_tup (xs := [.int (leastR two T fr f n), rowD r, seqD (gpath r two T r.length (fst0 r fr))]) (el_cons (var_at rfl) rfl (el_cons (var_at rfl) rfl (el_cons e8' rfl el_nil))) (by show 3 ≤ 1000000; decide)) rfl (by simp only [lwE, exT, evE, evL, evI, evM, Out.bind_ok, Out.thn_ok, Out.bind_exc, Out.thn_exc, Out.nox, OutS.thn_nx, OutS.thn_rt, OutS.thn_exc, outF, List.getElem?_cons_zero, List.getElem?_cons_succ, List.getElem?_nil, vw_int, vw_bl, vw_non, vw_str, vw_tup, vw_lst, vw_dct, vw_ins, vw_scr, vw_obj, vw_own, vw_tmp, d_lst, d_dct, d_ins, fz_val, fz_own, lk_val, lk_own, lk_tmp, sq_tup, sq_lst, vw_sp, vw_mv, vw_row, List.all_cons, List.all_nil, free1_eq, plainS_val, plainS_un, plainS_lst, plainS_dct, Option.getD_some, notIns, putAll, putM, put, putT, List.map_cons, List.map_nil, List.set_cons_zero, List.set_cons_succ, List.length_cons, List.length_nil, List.nil_append, List.cons_append, Bool.and_self, Bool.and_true, Bool.true_and, Bool.and_false, Bool.false_and, Bool.not_true, Bool.not_false, if_true, ite_true, ite_false, beq_self_eq_true, Option.bind_some, Option.map_some, Nat.zero_add, Nat.reduceAdd, Nat.reduceBEq, Nat.reduceLeDiff, Nat.reduceLT, Nat.reduceEqDiff, decide_true, decide_false, I.stays, vI, vB, reduceIte, Bool.false_eq_true, Bool.true_eq_false, lim, b_addI, b_subI, cmpop_lt, cmpop_le, cmpop_gt, cmpop_ge, cmpop_eq, cmpop_ne, isNon, Bool.bne_true, Bool.bne_false, bne_false2, bne_true2, p7])) ?_
  unfold tlaw_7
  refine sq (by rw [ex_iteF (ev_cmp (ev_call (ds := [gmD two f, plnD T, .str (whS fr), .int n]) rfl e8) (var_at rfl) rfl rfl (ne_same (fl_worst hT two fr f n r) (by decide))), exT]) ?_
  unfold tlaw_6
  have n2 : cmpop .ne (.str "who") (.str "who") = some false := ne_same (k := 0) (.str 0 (by decide +kernel)) (by decide)
  have n3 : cmpop .ne (.str "number") (.str "number") = some false := ne_same (k := 0) (.str 0 (by decide +kernel)) (by decide)
  refine sq (by rw [ex_iteF (ev_cmp (ev_call (ds := [gmD two f, plnD T, dw, .non]) (el_cons (var_at rfl) rfl (el_cons (var_at rfl) rfl (el_cons (ev_idx (ra := .own (.lst [.str "third", .non])) rfl (ev_call (ds := [.obj 0, .int 2]) rfl e9) rfl rfl edw) rfl (el_cons ev_cst rfl el_nil)))) e10) ev_cst rfl rfl n2), exT]) ?_
  unfold tlaw_5
  refine sq (by rw [ex_iteF (ev_cmp (ev_call (ds := [gmD two f, plnD T, .str (whS fr), dn]) (el_cons (var_at rfl) rfl (el_cons (var_at rfl) rfl (el_cons (var_at rfl) rfl (el_cons (ev_idx (ra := .own (.lst [.int 0, .int 17, .int (-1), .bl true, .non, .str "3"])) rfl (ev_call (ds := [.obj 0, .int 6]) rfl e11) rfl rfl edn) rfl el_nil)))) e12) ev_cst rfl rfl n3), exT]) ?_
  rw [exT]
theorem law_ok (ns : List Int) : ∃ S, runFd L.tab (callN L.tab (j + 47)) flaw [.scr (ns.map D.int)] [] = .ok (.val (.bl true)) S := by
  have h0 : IsRow (row ns 0 0 7 []) := ⟨ns, 0, 0, 7, [], rfl, Int.le_refl _, Int.le_refl _⟩
  obtain ⟨S1, r1', r1, _, u1, v1, e1⟩ := s_pickR (j + 46) h0 2 (by decide) (by decide)
  obtain ⟨two, er⟩ := rule_of u1 v1
  obtain ⟨S2, r2', r2, _, u2, v2, e2⟩ := s_pickR (j + 46) r1 2 (by decide) (by decide)
  obtain ⟨fr, ew⟩ := who_of u2 v2
  obtain ⟨ρ', S3, hl, x2, x5, x6, x7, x8, x10, x11, x12, x13, x14, x15, r3, p2, p5, p6, p7, p8, p10, p11, p12, p13, p14, p15, hk, rfl⟩ := for_at (f := stepF L.tab (callN L.tab (j + 47)) [2] tlaw_13) (fun k ρ S' => ∃ x2 x5 x6 x7 x8 x10 x11 x12 x13 x14 x15, IsRow S' ∧ plainS x2 = true ∧ plainS x5 = true ∧ plainS x6 = true ∧ plainS x7 = true ∧ plainS x8 = true ∧ plainS x10 = true ∧ plainS x11 = true ∧ plainS x12 = true ∧ plainS x13 = true ∧ plainS x14 = true ∧ plainS x15 = true ∧
      (0 < k → ∃ T f, okTb T ∧ f < 7 ∧ x10 = .val (.dct (tabD T)) ∧ x11 = .val (.str (FS f)) ∧ x13 = .val (gmD two f) ∧ x14 = .val (plnD T)) ∧
      ρ = lwE two fr (.val (.scr (ns.map D.int))) x2 x5 x6 x7 x8 .un x10 x11 x12 x13 x14 x15)
    ((List.range (3 : Int).toNat).map fun (i : Nat) => D.int (0 + i)) 0 (ρ := lwE two fr (.val (.scr (ns.map D.int))) .un .un .un .un .un .un .un .un .un .un .un .un) (S := S2) (fun k x ρ S' hx hI => by
      obtain ⟨x2, x5, x6, x7, x8, x10, x11, x12, x13, x14, x15, r3, p2, p5, p6, p7, p8, p10, p11, p12, p13, p14, p15, _, rfl⟩ := hI
      obtain ⟨_, rfl⟩ := at_range hx
      obtain ⟨S6, y5, y6, y7, y8, y12, y15, T, f, r6, q5, q6, q7, q8, q12, q15, hT, hf, e⟩ := turn (two := two) (fr := fr) j r3 (.val (.scr (ns.map D.int))) (.val (.int k)) x5 x6 x7 x8 .un x10 x11 x12 x13 x14 x15 p5 p6 p7 p8 rfl p10 p11 p12 p13 p14 p15
      exact ⟨_, _, e, _, y5, y6, y7, y8, _, _, y12, _, _, y15, r6, rfl, q5, q6, q7, q8, rfl, rfl, q12, rfl, rfl, q15, fun _ => ⟨T, f, hT, hf, rfl, rfl, rfl, rfl⟩, rfl⟩)
    ⟨.un, .un, .un, .un, .un, .un, .un, .un, .un, .un, .un, r2, rfl, rfl, rfl, rfl, rfl, rfl, rfl, rfl, rfl, rfl, rfl, fun z => absurd z (by decide), rfl⟩
  obtain ⟨T, f, hT, hf, rfl, rfl, rfl, rfl⟩ := hk (by decide)
  have hn : 16 ∈ NS := by decide
  obtain ⟨r, hw, hmem, hv⟩ := worstR_some two T fr hf hn
  obtain ⟨S4, r4, e3⟩ := s_worst (two := two) j hT fr hf hn hw r3
  have es := s_Lsimple (j + 46) S4 hf hn
  have hfew := sim_few f (List.mem_range.mpr hf) 16 hn
  obtain ⟨S5, r5, e4⟩ := it_mapS (f := compF L.tab (callN L.tab (j + 47)) [16] [16] (.cst (.bl true)) .nil (.call 41 (.cons (.var 10) (.cons (.var 3) (.cons (.var 4) (.cons (.var 16) .nil))))) (lwE two fr (.val (.scr (ns.map D.int))) x2 (.val (rowD r)) x6 x7 (.val (.int (leastR two T fr f 16))) (.val (seqD (gpath r two T r.length (fst0 r fr)))) (.val (.dct (tabD T))) (.val (.str (FS f))) x12 (.val (gmD two f)) (.val (plnD T)) x15)) (h := rowD) (g := fun r => D.int (VR two T fr r)) IsRow
    (simR f 16) [] S4 r4 (by show 0 + _ < 1000000; omega) (fun q hq ys S1 h1 hy => by
      obtain ⟨kvs, e1⟩ := s_Lbrought (j + 4) S1 (two := two) (T := T) (ws := q) hT (by rw [simR_len hq]; decide) fr
      exact ⟨_, h1.app [.dct kvs], comp_turnG (ρ1 := [.val (.scr (ns.map D.int)), .val (.obj 0), x2, .val (.str (rl two)), .val (.str (whS fr)), .val (rowD r), x6, x7, .val (.int (leastR two T fr f 16)), .val (seqD (gpath r two T r.length (fst0 r fr))), .val (.dct (tabD T)), .val (.str (FS f)), x12, .val (gmD two f), .val (plnD T), x15, .val (rowD q), .un]) rfl (ev_call (ds := [.dct (tabD T), .str (rl two), .str (whS fr), rowD q]) rfl e1) rfl hy⟩)
  rw [List.nil_append] at e4
  refine ⟨S5, ?_⟩
  rw [run_def rfl rfl]
  show outF (exT _ _ tlaw_18 [.val (.scr (ns.map D.int)), .un, .un, .un, .un, .un, .un, .un, .un, .un, .un, .un, .un, .un, .un, .un, .un, .un] []) = _
  unfold tlaw_18
  rw [sq (S1 := row ns 0 0 7 []) (ρ1 := [.val (.scr (ns.map D.int)), .val (.obj 0), .un, .un, .un, .un, .un, .un, .un, .un, .un, .un, .un, .un, .un, .un, .un, .un]) (by kernel_rfl) rfl]
  unfold tlaw_17
  rw [sq (S1 := S2) (ρ1 := lwE two fr (.val (.scr (ns.map D.int))) .un .un .un .un .un .un .un .un .un .un .un .un) (ex_par (ds := [.str (rl two), .str (whS fr)]) (el_cons (ev_idx (ra := .own (.lst [.str "one", .str "two"])) rfl (ev_call (ds := [.obj 0, .int 2]) rfl e1) rfl rfl er) rfl (el_cons (ev_idx (ra := .own (.lst [.str "first", .str "second"])) rfl (ev_call (ds := [.obj 0, .int 2]) rfl e2) rfl rfl ew) rfl el_nil)) rfl rfl) rfl]
  unfold tlaw_16
  rw [sq (ex_for (ev_rng1 (z := 3) ev_cst (by decide) (by decide)) rfl (by simp only [lwE, exT, evE, evL, evI, evM, Out.bind_ok, Out.thn_ok, Out.bind_exc, Out.thn_exc, Out.nox, OutS.thn_nx, OutS.thn_rt, OutS.thn_exc, outF, List.getElem?_cons_zero, List.getElem?_cons_succ, List.getElem?_nil, vw_int, vw_bl, vw_non, vw_str, vw_tup, vw_lst, vw_dct, vw_ins, vw_scr, vw_obj, vw_own, vw_tmp, d_lst, d_dct, d_ins, fz_val, fz_own, lk_val, lk_own, lk_tmp, sq_tup, sq_lst, vw_sp, vw_mv, vw_row, List.all_cons, List.all_nil, free1_eq, plainS_val, plainS_un, plainS_lst, plainS_dct, Option.getD_some, notIns, putAll, putM, put, putT, List.map_cons, List.map_nil, List.set_cons_zero, List.set_cons_succ, List.length_cons, List.length_nil, List.nil_append, List.cons_append, Bool.and_self, Bool.and_true, Bool.true_and, Bool.and_false, Bool.false_and, Bool.not_true, Bool.not_false, if_true, ite_true, ite_false, beq_self_eq_true, Option.bind_some, Option.map_some, Nat.zero_add, Nat.reduceAdd, Nat.reduceBEq, Nat.reduceLeDiff, Nat.reduceLT, Nat.reduceEqDiff, decide_true, decide_false, I.stays, vI, vB, reduceIte, Bool.false_eq_true, Bool.true_eq_false, lim, b_addI, b_subI, cmpop_lt, cmpop_le, cmpop_gt, cmpop_ge, cmpop_eq, cmpop_ne, isNon, Bool.bne_true, Bool.bne_false, bne_false2, bne_true2]) hl) rfl]
  unfold tlaw_15
  rw [sq (S1 := S4) (ρ1 := lwE two fr (.val (.scr (ns.map D.int))) x2 (.val (rowD r)) x6 x7 (.val (.int (leastR two T fr f 16))) (.val (seqD (gpath r two T r.length (fst0 r fr)))) (.val (.dct (tabD T))) (.val (.str (FS f))) x12 (.val (gmD two f)) (.val (plnD T)) x15) (ex_tupl3 (ev_call (ds := [gmD two f, plnD T, .str (whS fr), .int 16]) rfl e3) (by simp only [lwE, exT, evE, evL, evI, evM, Out.bind_ok, Out.thn_ok, Out.bind_exc, Out.thn_exc, Out.nox, OutS.thn_nx, OutS.thn_rt, OutS.thn_exc, outF, List.getElem?_cons_zero, List.getElem?_cons_succ, List.getElem?_nil, vw_int, vw_bl, vw_non, vw_str, vw_tup, vw_lst, vw_dct, vw_ins, vw_scr, vw_obj, vw_own, vw_tmp, d_lst, d_dct, d_ins, fz_val, fz_own, lk_val, lk_own, lk_tmp, sq_tup, sq_lst, vw_sp, vw_mv, vw_row, List.all_cons, List.all_nil, free1_eq, plainS_val, plainS_un, plainS_lst, plainS_dct, Option.getD_some, notIns, putAll, putM, put, putT, List.map_cons, List.map_nil, List.set_cons_zero, List.set_cons_succ, List.length_cons, List.length_nil, List.nil_append, List.cons_append, Bool.and_self, Bool.and_true, Bool.true_and, Bool.and_false, Bool.false_and, Bool.not_true, Bool.not_false, if_true, ite_true, ite_false, beq_self_eq_true, Option.bind_some, Option.map_some, Nat.zero_add, Nat.reduceAdd, Nat.reduceBEq, Nat.reduceLeDiff, Nat.reduceLT, Nat.reduceEqDiff, decide_true, decide_false, I.stays, vI, vB, reduceIte, Bool.false_eq_true, Bool.true_eq_false, lim, b_addI, b_subI, cmpop_lt, cmpop_le, cmpop_gt, cmpop_ge, cmpop_eq, cmpop_ne, isNon, Bool.bne_true, Bool.bne_false, bne_false2, bne_true2, p5, p8])) rfl]
  unfold tlaw_14
  have hne := sim_ne f (List.mem_range.mpr hf) 16 hn
  have hm := minL_int (ns := (simR f 16).map (VR two T fr)) (by simpa using hne)
  rw [List.map_map] at hm
  have c := ev_blt (X := L.tab) (C := callN L.tab (j + 47)) (bi := 5) (d := .int (leastR two T fr f 16)) (ev_compN (ev_seqI (e := .call 36 (.cons (.var 11) (.cons (.cst (.int 16)) .nil))) (r := .own (.lst ((simR f 16).map rowD))) (ev_call (ds := [.str (FS f), .int 16]) rfl es) rfl) (by rw [List.length_map]; omega) e4) rfl (by
    show (minL ((simR f 16).map fun r => D.int (VR two T fr r))).map _ = _
    rw [show ((simR f 16).map fun r => D.int (VR two T fr r)) = (simR f 16).map (D.int ∘ VR two T fr) from rfl, hm]
    rfl)
  have cc := ev_cmp (op := .eq) (var_at (X := L.tab) (C := callN L.tab (j + 47)) (i := 8) (d := .int (leastR two T fr f 16)) rfl) c rfl rfl (cmp_eqI _ _)
  rw [decide_eq_true rfl] at cc
  exact congrArg outF (sqR (ex_ret cc))
end
end K06

set_option maxHeartbeats 0
namespace K06
open PySem L2 R
abbrev Row : PySem.W.OpenRow := PySem.W.OpenLaw.row PySem.Challenge.rw_endworths_k06_whole_worst_rows
abbrev file : Str := (PySem.Challenge.rw_endworths_k06_whole_worst_rows).prog.main.file
def ob (s : PySem.W.SharedT) : AlR := obsRG L file 6 (HandSHeadRun.getT s)
theorem ob_eq (s : PySem.W.SharedT) : ob s = (hookR L file 6).obs s.abs := obsRG_eq (HandSHeadRun.getT_eq s)
theorem run (w : World) : HandSHeadRun.RunEq Row (PySem.W.view Row.prog [lawAt]) (hookR L file 6) ob 12000 loose w := by
  intro os
  kernel_rfl
end K06

set_option maxHeartbeats 0
open PySem PySem.W PySem.Calls PyProof.Rows
theorem PySem.Challenge.cw_endworths_k06_whole_worst_rows_holds : PySem.Challenge.rw_endworths_k06_whole_worst_rows.Holds := by
  w_on; o_law
  refine HandSHeadRun.head_any (r := OpenLaw.row PySem.Challenge.rw_endworths_k06_whole_worst_rows) (q := view (OpenLaw.row PySem.Challenge.rw_endworths_k06_whole_worst_rows).prog [K06.lawAt]) (H := R.hookR K06.L K06.file 6) (ob := K06.ob) (M := 12000) (loose := K06.loose) (d := HandSHeadRun.topDef (OpenLaw.row PySem.Challenge.rw_endworths_k06_whole_worst_rows).prog K06.lawAt) (kwd := []) K06.ob_eq
    (by kernel_rfl) (fun s => by kernel_rfl) K06.run (by kernel_rfl) (by kernel_rfl) (by kernel_rfl) (by rfl) (by first | assumption | decide +kernel) (by decide +kernel) ⟨rfl, rfl, rfl, rfl, rfl, by decide +kernel⟩ ?hw ?hc
  case hw => w_witness2
  case hc =>
    exact R.walk_R (l := PySem.Challenge.rw_endworths_k06_whole_worst_rows) (L := K06.L) (n := 63) (j := 47) (fl := K06.lawF) (e := K06.e44) (x := "_law_script") rfl (by decide) (by kernel_rfl) ⟨rfl, by decide, by decide⟩ (by decide +kernel) K06.bnd K06.stat rfl (by kernel_rfl) rfl rfl (fun ns _ => K06.law_ok 0 ns)
