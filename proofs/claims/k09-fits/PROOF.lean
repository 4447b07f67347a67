import PyProof.Rows.All
import PySem.Challenge.RW_cubeviews_k09_fits
import Wide.All
import OpenK.AllK
import Wide.FinOn
import KE.KStateDown
import Lean
import KE.SortData
import KE.KDictCopyH
import KE.KDictSum
import KE.KeyNested
import KE.KDictWalk
import KE.GoesDict
import KE.Datum
import KE.DataEq
import HandS.MakeKwOnly
import HandS.NoneIn
import HandS.ForMost
import HandS.ForExc
import HandS.Defaults
import HandS.Flow
import HandS.IsInst
import HandS.Property
import HandS.ClsMeth
import HandS.ExcIs
import HandS.TryMany
import HandS.TryOnly
import HandS.OwnEq
import HandS.Deep
import HandS.Style
import HandS.Rev
import HandS.CallLocal
import HandS.Sort
import HandS.Star
import HandS.SortRule
import HandS.DictComp
import HandS.Head0
import HandS.Head1
import HandS.Head2
import HandS.HeadEnd
import HandS.HeadHook1
import HandS.HeadHook2
import HandS.HeadHook3
import KE.DataMinMax
set_option Elab.async false
set_option linter.all false
set_option maxRecDepth 100000
set_option maxHeartbeats 4000000
set_option maxHeartbeats 4000000
/-! ## plain values, a small language, what its terms give -/
namespace Pe
open PySem
/-- plain values: what never changes -/
inductive D where
  | non | bl (b : Bool) | int (i : Int) | str (s : Str)
  | tup (xs : List D) | lst (xs : List D) | dic (kvs : List (D × D))
  | ins (c : Str) (fs : List (Str × D))
  | cls (c : Str)
/-- a plain value, or the cell n -/
inductive W where
  | d (x : D) | r (n : Nat)
/-- what stands in a cell -/
inductive Ob where
  | lst (xs : List D) | dic (kvs : List (D × D)) | lstR (xs : List Nat) | dicR (kvs : List (D × Nat)) | ins (c : Str) (fs : List (Str × W))
  /-- known as a plain value from here on -/
  | gone (x : D)
structure Cell where
  ob : Ob
  lk : Bool
abbrev Cells := List Cell
/-- a value: known, or an object just made -/
inductive Val where
  | w (x : W) | new (o : Ob)
structure Ex where
  c : Str
  fs : List (Str × D)
inductive Out (α : Type) where
  | ok (a : α) (h : Cells) | exc (e : Ex) (h : Cells) | bad
def Out.bind {α β : Type} (o : Out α) (f : α → Cells → Out β) : Out β := match o with
  | .ok a h => f a h
  | .exc e h => .exc e h
  | .bad => .bad
abbrev Env := List (Option W)
abbrev Cl := Str → Str → List W → Cells → Out Val
/-! ### keys -/
mutual
def D.key : D → Option NestedKey
  | .non => some .none
  | .bl b => some (.num (if b = true then 1 else 0))
  | .int i => some (.num i)
  | .str s => some (.text s)
  | .tup xs => (D.keys xs).map .tup
  | .lst _ => none
  | .dic _ => none
  | .ins _ _ => none
  | .cls _ => none
def D.keys : List D → Option (List NestedKey)
  | [] => some []
  | x :: xs => match D.key x, D.keys xs with
    | some k, some ks => some (k :: ks)
    | _, _ => none
end
/-- a key that may be asked for -/
def D.hk (x : D) : Option NestedKey := match x.key with
  | some k => if k.depth ≤ 8 then some k else none
  | none => none
def dget {α : Type} : List (D × α) → NestedKey → Option α
  | [], _ => none
  | (d, v) :: r, k => if d.key = some k then some v else dget r k
def dput {α : Type} : List (D × α) → D → NestedKey → α → List (D × α)
  | [], kd, _, v => [(kd, v)]
  | (d, x) :: r, kd, k, v => if d.key = some k then (d, v) :: r else (d, x) :: dput r kd k v
def alook {α : Type} : List (Str × α) → Str → Option α
  | [], _ => none
  | (x, v) :: r, y => if x = y then some v else alook r y
def aput {α : Type} : List (Str × α) → Str → α → List (Str × α)
  | [], y, v => [(y, v)]
  | (x, u) :: r, y, v => if x = y then (x, v) :: r else (x, u) :: aput r y v
/-! ### reading -/
mutual
/-- plain data: no dict, no object of an own class -/
def D.pl : D → Bool
  | .non => true
  | .bl _ => true
  | .int _ => true
  | .str _ => true
  | .tup xs => D.pls xs
  | .lst xs => D.pls xs
  | .dic _ => false
  | .ins _ _ => false
  | .cls _ => false
def D.pls : List D → Bool
  | [] => true
  | x :: xs => D.pl x && D.pls xs
end
mutual
def D.dep : D → Nat
  | .tup xs => D.deps xs + 1
  | .lst xs => D.deps xs + 1
  | _ => 0
def D.deps : List D → Nat
  | [] => 0
  | x :: xs => max (D.dep x) (D.deps xs)
end
mutual
/-- == of plain data -/
def D.eqv : D → D → Bool
  | .non, y => match y with
    | .non => true
    | _ => false
  | .bl a, y => match y with
    | .bl b => a == b
    | .int j => (if a then 1 else 0) == j
    | _ => false
  | .int i, y => match y with
    | .bl b => i == (if b then 1 else 0)
    | .int j => i == j
    | _ => false
  | .str s, y => match y with
    | .str t => s == t
    | _ => false
  | .tup xs, y => match y with
    | .tup ys => D.eqvs xs ys
    | _ => false
  | .lst xs, y => match y with
    | .lst ys => D.eqvs xs ys
    | _ => false
  | _, _ => false
def D.eqvs : List D → List D → Bool
  | [], ys => match ys with
    | [] => true
    | _ => false
  | x :: xs, ys => match ys with
    | [] => false
    | y :: ys => D.eqv x y && D.eqvs xs ys
end
def Ws.ds : List (Str × W) → Option (List (Str × D))
  | [] => some []
  | (x, .d v) :: r => match Ws.ds r with
    | some q => some ((x, v) :: q)
    | none => none
  | _ :: _ => none
/-- the object as a plain value, where it holds plain values alone -/
def Ob.fz : Ob → Option D
  | .lst xs => some (.lst xs)
  | .dic kvs => some (.dic kvs)
  | .ins c fs => (Ws.ds fs).map (.ins c)
  | .lstR _ => none
  | .dicR _ => none
  | .gone x => some x
/-- .. lists alone -/
def Ob.fzL : Ob → Option D
  | .lst xs => some (.lst xs)
  | .gone x => some x
  | _ => none
def Ob.liv : Ob → Bool
  | .gone _ => false
  | _ => true
def W.lim (n : Nat) : W → Bool
  | .r m => decide (m < n)
  | .d _ => true
/-- all cells that it names stand ahead of n -/
def Ob.lim (n : Nat) : Ob → Bool
  | .lstR ms => ms.all fun m => decide (m < n)
  | .dicR kvs => kvs.all fun p => decide (p.2 < n)
  | .ins _ fs => fs.all fun p => p.2.lim n
  | _ => true
/-- an object of an own class is never locked -/
def Cell.rd (c : Cell) : Option D := match c.ob, c.lk with
  | .ins _ _, true => none
  | o, _ => o.fz
def rdC (h : Cells) (n : Nat) : Option D := match h[n]? with
  | some c => c.rd
  | none => none
/-- .. where it is not locked -/
def Cell.rdu (c : Cell) : Option D := if c.lk then none else c.ob.fz
def W.rdu (h : Cells) : W → Option D
  | .d x => some x
  | .r n => match h[n]? with
    | some c => c.rdu
    | none => none
def W.rd (h : Cells) : W → Option D
  | .d x => some x
  | .r n => rdC h n
def rdAll (h : Cells) : List W → Option (List D)
  | [] => some []
  | w :: r => match w.rd h, rdAll h r with
    | some d, some ds => some (d :: ds)
    | _, _ => none
def Val.rd (h : Cells) : Val → Option D
  | .w x => x.rd h
  | .new o => o.fz
/-- a value handed on -/
def Val.arg : Val → Option W
  | .w x => some x
  | .new o => o.fz.map .d
def Out.toR (o : Out Val) : Out D := o.bind fun v h => match v.rd h with
  | some x => .ok x h
  | none => .bad
def Out.toW (o : Out Val) : Out W := o.bind fun v h => match v.arg with
  | some x => .ok x h
  | none => .bad
/-- a plain value, to be kept -/
def Out.toD (o : Out Val) : Out D := o.bind fun v h => match v with
  | .w (.d x) => .ok x h
  | .w (.r n) => match h[n]? with
    | some ⟨ob, false⟩ => match ob.fz with
      | some x => .ok x (h.set n ⟨.gone x, false⟩)
      | none => .bad
    | _ => .bad
  | .new ob => match ob.fz with
    | some x => .ok x h
    | none => .bad
def Out.toB (o : Out Val) : Out Bool := o.bind fun v h => match v with
  | .w (.d (.bl b)) => .ok b h
  | _ => .bad
/-- a cell whose value is known by now -/
def W.norm (h : Cells) : W → W
  | .d x => .d x
  | .r n => match h[n]? with
    | some ⟨.gone x, _⟩ => .d x
    | _ => .r n
def vD (x : D) : Val := .w (.d x)
def vB (b : Bool) : Val := .w (.d (.bl b))
def vI (i : Int) : Val := .w (.d (.int i))
/-! ### operators -/
def mulOk (i j : Int) : Bool := (decide (-(2 ^ 64) < i) && decide (i < 2 ^ 64)) || (decide (-(2 ^ 64) < j) && decide (j < 2 ^ 64))
def binD : Operator → D → D → Option Val
  | .Add, .int i, .int j => some (vI (i + j))
  | .Sub, .int i, .int j => some (vI (i - j))
  | .Mult, .int i, .int j => if mulOk i j then some (vI (i * j)) else none
  | .FloorDiv, .int i, .int j => if 0 < j ∧ j < 1073741824 then some (vI (i / j)) else none
  | .Mod, .int i, .int j => if 0 < j then some (vI (i % j)) else none
  | .Pow, .int i, .int j => if 0 ≤ j ∧ j ≤ 1000000 ∧ i.natAbs < 2 ^ 64 then some (vI (i ^ j.toNat)) else none
  | .Add, .lst xs, .lst ys => if xs.length + ys.length ≤ sizeLine then some (.new (.lst (xs ++ ys))) else none
  | .Mult, .lst xs, .int k => if -(2 ^ 63) ≤ k ∧ k < 2 ^ 63 ∧ xs.length * k.toNat ≤ sizeLine then some (.new (.lst (List.replicate k.toNat xs).flatten)) else none
  | _, _, _ => none
def cmpI : CmpOp → Int → Int → Option Bool
  | .Lt, i, j => some (decide (i < j))
  | .LtE, i, j => some (decide (i ≤ j))
  | .Gt, i, j => some (decide (j < i))
  | .GtE, i, j => some (decide (j ≤ i))
  | _, _, _ => none
def isNon : D → Bool
  | .non => true
  | _ => false
/-- in a list, a tuple, a dict -/
def inD : D → D → Option Bool
  | x, .lst ys => if x.pl && D.pls ys && decide (x.dep ≤ 60) then some (ys.any fun y => D.eqv y x) else none
  | x, .tup ys => if x.pl && D.pls ys && decide (x.dep ≤ 60) then some (ys.any fun y => D.eqv y x) else none
  | x, .dic kvs => match x.hk with
    | some k => some (dget kvs k).isSome
    | none => none
  | _, _ => none
/-- comparisons but == -/
def cmpD : CmpOp → D → D → Option Bool
  | .In, x, y => inD x y
  | .NotIn, x, y => (inD x y).map (!·)
  | .Is, x, .non => some (isNon x)
  | .IsNot, x, .non => some (!isNon x)
  | .Is, .bl a, .bl b => some (decide (a = b))
  | .IsNot, .bl a, .bl b => some (!decide (a = b))
  | op, .int i, .int j => cmpI op i j
  | _, _, _ => none
def eqD (x y : D) : Option Bool := if x.pl && y.pl && (decide (x.dep ≤ 60) || decide (y.dep ≤ 60)) then some (D.eqv x y) else none
/-- the place of an index -/
def ixAt (n : Nat) (i : Int) : Option Nat := if 0 ≤ i then (if i < n then some i.toNat else none) else if -(n : Int) ≤ i then some (i + n).toNat else none
def subD : D → D → Option D
  | .lst xs, .int i => match ixAt xs.length i with
    | some j => xs[j]?
    | none => none
  | .tup xs, .int i => match ixAt xs.length i with
    | some j => xs[j]?
    | none => none
  | .dic kvs, k => match k.hk with
    | some k => dget kvs k
    | none => none
  | _, _ => none
def cutIx (n d : Nat) : Option Int → Nat
  | none => d
  | some i => if i < 0 then (i + n).toNat else min i.toNat n
def cutD : D → Option Int → Option Int → Option Val
  | .lst xs, lo, hi => some (.new (.lst ((xs.drop (cutIx xs.length 0 lo)).take (cutIx xs.length xs.length hi - cutIx xs.length 0 lo))))
  | _, _, _ => none
def asInts : List D → Option (List Int)
  | [] => some []
  | .int i :: r => (asInts r).map (i :: ·)
  | _ :: _ => none
def asBools : List D → Option (List Bool)
  | [] => some []
  | .bl b :: r => (asBools r).map (b :: ·)
  | _ :: _ => none
def maxI (i : Int) (r : List Int) : Int := r.foldl (fun a b => if a < b then b else a) i
def minI (i : Int) (r : List Int) : Int := r.foldl (fun a b => if b < a then b else a) i
/-- built-in functions and types, by values -/
inductive Bf where
  | len | int | abs | min | max | sum | all | any | sorted | list | dict | repr
  deriving DecidableEq
def Bf.of (x : Str) : Option Bf :=
  if x = "len" then some .len else if x = "int" then some .int else if x = "abs" then some .abs else if x = "min" then some .min else if x = "max" then some .max
  else if x = "sum" then some .sum else if x = "all" then some .all else if x = "any" then some .any else if x = "sorted" then some .sorted else if x = "list" then some .list
  else if x = "dict" then some .dict else if x = "repr" then some .repr else none
mutual
/-- flat data, as the library's -/
def D.pf : D → Option PyData
  | .non => some .none
  | .bl b => some (.bool b)
  | .int i => some (.int i)
  | .str s => some (.str s)
  | .tup xs => (D.pfs xs).map .tuple
  | _ => none
def D.pfs : List D → Option (List PyData)
  | [] => some []
  | x :: r => match D.pf x, D.pfs r with
    | some a, some q => some (a :: q)
    | _, _ => none
end
def D.pfk : List (D × D) → Option (List (PyData × PyData))
  | [] => some []
  | (k, v) :: r => match k.pf, v.pf, D.pfk r with
    | some a, some b, some q => some ((a, b) :: q)
    | _, _, _ => none
/-- a dict's text -/
def reprD (kvs : List (D × D)) : Option Str := match D.pfk kvs with
  | some q => if PyData.showableKv q && (decide ((PyData.dict q).shown.length ≤ sizeLine) && decide (PyData.depthKv q ≤ 30)) then some (PyData.dict q).shown else none
  | none => none
def pairI : D → Option (Int × Int)
  | .tup [.int i, .int j] => some (i, j)
  | _ => none
def pairsI : List D → Option (List (Int × Int))
  | [] => some []
  | x :: r => match pairI x, pairsI r with
    | some p, some q => some (p :: q)
    | _, _ => none
def leP (a b : Int × Int) : Bool := decide (a.1 < b.1 ∨ (a.1 = b.1 ∧ a.2 ≤ b.2))
def pD (p : Int × Int) : D := .tup [.int p.1, .int p.2]
def sortD (xs : List D) : Option (List D) := match pairsI xs with
  | some ps => some ((ps.mergeSort leP).map pD)
  | none => none
mutual
/-- the hash of a key that is the same in every world -/
def khash : NestedKey → Option Int
  | .none => none
  | .num i => some (hashInt i)
  | .text _ => none
  | .tup ks => (khashes ks).map fun l => reduceHash (Builtin.Tuple.tupleHashOf l)
def khashes : List NestedKey → Option (List Int)
  | [] => some []
  | k :: r => match khash k, khashes r with
    | some a, some q => some (a :: q)
    | _, _ => none
end
def isTupK : NestedKey → Bool
  | .tup _ => true
  | _ => false
/-- tuples whose hashes differ -/
def apartK (ks : List NestedKey) : Bool := ks.all isTupK && (match khashes ks with
  | some hs => decide hs.Nodup
  | none => false)
def hks : List D → Option (List NestedKey)
  | [] => some []
  | d :: r => match d.hk, hks r with
    | some k, some q => some (k :: q)
    | _, _ => none
/-- the dict of a list of pairs -/
def dictP : List (D × D) → List D → Option (List (D × D))
  | acc, [] => some acc
  | acc, x :: r => match x with
    | .tup [k, v] => match k.hk with
      | some kk => if acc.length < sizeLine then dictP (dput acc k kk v) r else none
      | none => none
    | _ => none
def bltD : Bf → List D → Option Val
  | .len, [.lst xs] => some (vI xs.length)
  | .len, [.tup xs] => some (vI xs.length)
  | .len, [.dic xs] => some (vI xs.length)
  | .int, [.int i] => some (vI i)
  | .int, [.bl b] => some (vI (if b = true then 1 else 0))
  | .abs, [.int i] => some (vI (if i < 0 then -i else i))
  | .min, [.int i, .int j] => some (vI (if j < i then j else i))
  | .max, [.int i, .int j] => some (vI (if j > i then j else i))
  | .max, [.lst xs] => match asInts xs with
    | some (i :: r) => some (vI (maxI i r))
    | _ => none
  | .min, [.lst xs] => match asInts xs with
    | some (i :: r) => some (vI (minI i r))
    | _ => none
  | .sum, [.lst xs] => (asInts xs).map fun l => vI l.sum
  | .all, [.lst xs] => (asBools xs).map fun l => vB (l.all id)
  | .any, [.lst xs] => (asBools xs).map fun l => vB (l.any id)
  | .sorted, [.dic kvs] => (sortD (kvs.map (·.1))).map fun l => .new (.lst l)
  | .list, [.lst xs] => some (.new (.lst xs))
  | .list, [.tup xs] => some (.new (.lst xs))
  | .repr, [.dic kvs] => (reprD kvs).map fun s => vD (.str s)
  | .dict, [.dic kvs] => match hks (kvs.map (·.1)) with
    | some ks => if apartK ks = true then some (.new (.dic kvs)) else none
    | none => none
  | .dict, [.lst xs] => (dictP [] xs).map fun kvs => .new (.dic kvs)
  | _, _ => none
/-- isinstance -/
inductive Ty where
  | int | bool | str | list | tuple | dict | own (c : Str)
def isiO : Ty → Ob → Bool
  | .list, .lst _ => true
  | .list, .lstR _ => true
  | .dict, .dic _ => true
  | .dict, .dicR _ => true
  | .own c, .ins k _ => decide (k = c)
  | _, _ => false
def isiD : Ty → D → Bool
  | .int, .int _ => true
  | .int, .bl _ => true
  | .bool, .bl _ => true
  | .str, .str _ => true
  | .list, .lst _ => true
  | .tuple, .tup _ => true
  | .dict, .dic _ => true
  | .own c, .ins k _ => decide (k = c)
  | _, _ => false
/-- the own class -/
def W.own (h : Cells) : W → Option Str
  | .d (.ins c _) => some c
  | .r n => match h[n]? with
    | some ⟨.ins c _, false⟩ => some c
    | _ => none
  | _ => none
/-! ### the terms -/
inductive Tg where
  | name (i : Nat) | tup (ts : List Nat)
mutual
inductive M where
  | var (i : Nat) | con (x : D) | glob (x : Str)
  | bin (op : Operator) (a b : M) | neg (a : M)
  | cmp (op : CmpOp) (a b : M) | chain (op op' : CmpOp) (a b c : M)
  | not (a : M) | and (a b : M) | or (a b : M) | ife (c a b : M)
  | tup (es : List M) | lst (es : List M) | lstS (a : M) (es : List M) | dnew
  | call (x : Str) (es : List M) | callK (x : Str) (es : List M) (ks : List Str) (vs : List M) | isi (a : M) (t : Ty)
  | meth (o : M) (m : Str) (es : List M) | bm (o : M) (m : Str) (es : List M) | attr (o : M) (f : Str)
  | sub (o i : M) | slice (o : M) (lo hi : Option M)
  | lc (elt : M) (tg : Tg) (it : Wk) (cs : Option M)
  | dc (k v : M) (tg : Tg) (it : Wk) (cs : Option M)
  | dcR (k v : M) (tg : Tg) (it : Wk) | settle (e : M) | pick (es : List M) (i : M)
inductive Wk where
  | val (e : M) | range (a : M) | range2 (a b : M) | items (e : M) | values (e : M) | enum (e : M)
end
def bindT : Tg → D → Env → Option Env
  | .name i, x, ρ => some (ρ.set i (some (.d x)))
  | .tup [i, j], .tup [x, y], ρ => some ((ρ.set i (some (.d x))).set j (some (.d y)))
  | _, _, _ => none
structure CDef where
  fields : List Str := []
  props : List Str := []
  mu : Bool := false
structure XDef where
  fields : List Str := []
  ups : List Str := []
/-- where a parameter's value comes from: a positional one, a keyword's, a default -/
inductive Src where
  | pos (i : Nat) | kw (i : Nat) | dft (d : D)
structure Prog where
  isFn : Str → Str → Bool
  cls : Str → Option CDef
  exc : Str → Option XDef
  con : Str → Option D
  free : Str → Bool
  kwa : Str → Nat → List Str → Option (List Src) := fun _ _ _ => none
/-- one after the other -/
def lcGo (f : D → Cells → Out (Option D)) : List D → List D → Cells → Out (List D)
  | [], acc, h => .ok acc h
  | x :: r, acc, h => (f x h).bind fun y h => match y with
    | some y => if acc.length < sizeLine then lcGo f r (acc ++ [y]) h else .bad
    | none => lcGo f r acc h
def dcGo (f : D → Cells → Out (Option (D × D))) : List D → List (D × D) → Cells → Out (List (D × D))
  | [], acc, h => .ok acc h
  | x :: r, acc, h => (f x h).bind fun y h => match y with
    | some y => match y.1.hk with
      | some k => if acc.length < sizeLine then dcGo f r (dput acc y.1 k y.2) h else .bad
      | none => .bad
    | none => dcGo f r acc h
/-- .. where the values are cells of their own -/
def dcGoR (f : D → Cells → Out (D × Ob)) : List D → List (D × Nat) → Cells → Out (List (D × Nat))
  | [], acc, h => .ok acc h
  | x :: r, acc, h => (f x h).bind fun y h => match y.1.hk with
    | some k => if acc.length < sizeLine ∧ (dget acc k).isNone = true then dcGoR f r (acc ++ [(y.1, h.length)]) (h ++ [⟨y.2, false⟩]) else .bad
    | none => .bad
def enumD : Int → List D → List D
  | _, [] => []
  | i, x :: r => .tup [.int i, x] :: enumD (i + 1) r
def rangeD (n : Int) : List D := (List.range n.toNat).map fun (k : Nat) => .int k
def rangeD2 (i j : Int) : List D := (List.range (j - i).toNat).map fun (k : Nat) => .int (i + k)
/-- nothing that is raised leaves -/
def Out.calm {α : Type} : Out α → Out α
  | .exc _ _ => .bad
  | o => o
/-- a class may be told -/
def W.typed (P : Prog) (h : Cells) : W → Bool
  | .d (.cls _) => false
  | .d (.ins c _) => (P.cls c).isSome
  | .d _ => true
  | .r n => match h[n]? with
    | some ⟨.gone _, _⟩ => false
    | some ⟨.ins c _, lk⟩ => !lk && (P.cls c).isSome
    | some _ => true
    | none => false
/-- a value whose type is told -/
def Val.isi (P : Prog) (h : Cells) (t : Ty) : Val → Option Bool
  | .w (.d (.cls _)) => none
  | .w (.d (.ins c fs)) => if (P.cls c).isSome then some (isiD t (.ins c fs)) else none
  | .w (.d x) => some (isiD t x)
  | .w (.r n) => match h[n]? with
    | some ⟨.gone _, _⟩ => none
    | some ⟨.ins c fs, lk⟩ => if !lk && (P.cls c).isSome then some (isiO t (.ins c fs)) else none
    | some ⟨o, _⟩ => some (isiO t o)
    | none => none
  | .new (.gone _) => none
  | .new (.ins c fs) => if (P.cls c).isSome then some (isiO t (.ins c fs)) else none
  | .new o => some (isiO t o)
def tyOk (P : Prog) : Ty → Bool
  | .own c => (P.cls c).isSome
  | .int => P.free "int"
  | .bool => P.free "bool"
  | .str => P.free "str"
  | .list => P.free "list"
  | .tuple => P.free "tuple"
  | .dict => P.free "dict"
section
variable (P : Prog) (cl : Cl)
/-- built-in functions -/
def lenOwn (ws : List W) : Option (Str × W) := match ws with
  | [.d (.ins c fs)] => some (c, .d (.ins c fs))
  | _ => none
def blM (b : Bf) (ws : List W) (h : Cells) : Out Val := match (if b = .len then lenOwn ws else none) with
  | some (c, w) => if (P.cls c).isSome && P.isFn c "__len__" then (cl c "__len__" [w] h).bind fun v h => match v with
    | .w (.d (.int i)) => if 0 ≤ i ∧ i < 2 ^ 63 then .ok (vI i) h else .bad
    | _ => .bad
    else .bad
  | none => match rdAll h ws with
    | some ds => match bltD b ds with
      | some v => .ok v h
      | none => .bad
    | none => .bad
def callOk (P : Prog) (x : Str) (n : Nat) : Bool := P.isFn "" x || match P.cls x with
  | some _ => P.isFn x "__init__" || (decide (0 < n) && (P.kwa x n []).isSome)
  | none => P.free x && (Bf.of x).isSome
def Src.pick (ws zs : List W) : Src → Option W
  | .pos i => ws[i]?
  | .kw i => zs[i]?
  | .dft d => some (.d d)
def pickAll (ws zs : List W) : List Src → Option (List W)
  | [] => some []
  | s :: r => match s.pick ws zs, pickAll ws zs r with
    | some w, some q => some (w :: q)
    | _, _ => none
/-- a class is called with keywords -/
def makeK (x : Str) (us : List W) (h : Cells) : Out Val := match P.cls x with
  | some c => (cl x "__init__" (.r h.length :: us) (h ++ [⟨.ins x [], false⟩])).bind fun v h' => match v with
    | .w (.d .non) => if c.mu then .ok (.w (.r h.length)) h' else match h'[h.length]? with
      | some ⟨.ins k fs, false⟩ => .ok (.new (.ins k fs)) (h'.take h.length)
      | _ => .bad
    | _ => .bad
  | none => .bad
/-- max(.., default=..) -/
def maxOk (x : Str) (n : Nat) (ks : List Str) : Bool := !P.isFn "" x && (decide (x = "max") && (P.free "max" && (decide (n = 1) && decide (ks = [("default" : Str)]))))
def maxDM (ws zs : List W) (h : Cells) : Out Val := match rdAll h ws, zs with
  | some [.lst xs], [.d (.int d)] => match asInts xs with
    | some (i :: r) => .ok (vI (maxI i r)) h
    | some [] => .ok (vI d) h
    | none => .bad
  | _, _ => .bad
def callM (x : Str) (ws : List W) (h : Cells) : Out Val :=
  if P.isFn "" x then cl "" x ws h
  else match P.cls x with
  | some c => if P.isFn x "__init__" then (cl x "__init__" (.r h.length :: ws) (h ++ [⟨.ins x [], false⟩])).bind fun v h' => match v with
    | .w (.d .non) => if c.mu then .ok (.w (.r h.length)) h' else match h'[h.length]? with
      | some ⟨.ins k fs, false⟩ => .ok (.new (.ins k fs)) (h'.take h.length)
      | _ => .bad
    | _ => .bad else match P.kwa x ws.length [] with
      | some arr => match pickAll ws [] arr with
        | some us => makeK P cl x us h
        | none => .bad
      | none => .bad
  | none => if P.free x = true then match Bf.of x with
    | some b => blM P cl b ws h
    | none => .bad
    else .bad
def eqM (x y : W) (h : Cells) : Out Bool := match x.own h with
  | some c => if (P.cls c).isSome && (P.isFn c "__eq__" && y.typed P h) then (cl c "__eq__" [x, y] h).toB else .bad
  | none => match x.rd h, y.rd h with
    | some a, some b => match eqD a b with
      | some r => .ok r h
      | none => .bad
    | _, _ => .bad
def cmpM (op : CmpOp) (x y : W) (h : Cells) : Out Bool := match op with
  | .Eq => eqM P cl x y h
  | .NotEq => (eqM P cl x y h).bind fun b h => .ok (!b) h
  | op => match x.rd h, y.rd h with
    | some a, some b => match cmpD op a b with
      | some r => .ok r h
      | none => .bad
    | _, _ => .bad
def attrM (x : W) (f : Str) (h : Cells) : Out Val := match x with
  | .d (.ins c fs) => match P.cls c with
    | some k => if f ∈ k.fields then (match alook fs f with
      | some x => .ok (vD x) h
      | none => .bad) else if f ∈ k.props ∧ P.isFn c f = true then (cl c f [.d (.ins c fs)] h).calm else .bad
    | none => .bad
  | .r n => match h[n]? with
    | some ⟨.ins c fs, false⟩ => match P.cls c with
      | some k => if f ∈ k.fields then (match alook fs f with
        | some x => .ok (.w (x.norm h)) h
        | none => .bad) else if f ∈ k.props ∧ P.isFn c f = true then (cl c f [.r n] h).calm else .bad
      | none => .bad
    | _ => .bad
  | _ => .bad
/-- c has a method m -/
def isM (P : Prog) (c m : Str) : Bool := match P.cls c with
  | some d => P.isFn c m && !(d.props.contains m)
  | none => false
def ownM (h : Cells) (x : W) (m : Str) : Option Str := match x with
  | .d (.ins c fs) => match alook fs m with
    | some _ => none
    | none => if isM P c m then some c else none
  | .r n => match h[n]? with
    | some ⟨.ins c fs, false⟩ => match alook fs m with
      | some _ => none
      | none => if isM P c m then some c else none
    | _ => none
  | _ => none
/-- list or dict -/
def W.lod (h : Cells) : W → Option Bool
  | .d (.lst _) => some true
  | .d (.dic _) => some false
  | .r n => match h[n]? with
    | some ⟨.lst _, _⟩ => some true
    | some ⟨.dic _, _⟩ => some false
    | _ => none
  | _ => none
/-- lists have it (true), dicts have it (false) -/
def bmHas (m : Str) (t : Bool) : Bool := m == "clear" || (m == "get" && !t) || ((m == "append" || m == "extend" || m == "pop") && t)
/-- methods of dicts that change nothing -/
def getD : List (D × D) → List D → Option Val
  | kvs, [k] => match k.hk with
    | some k => some (vD ((dget kvs k).getD .non))
    | none => none
  | kvs, [k, z] => match k.hk with
    | some k => some (vD ((dget kvs k).getD z))
    | none => none
  | _, _ => none
/-- methods of lists, of dicts -/
def bmM (x : W) (m : Str) (ds : List D) (h : Cells) : Out Val :=
  if m = "append" then match x, ds with
    | .r n, [d] => match h[n]? with
      | some ⟨.lst xs, false⟩ => if xs.length < sizeLine then .ok (vD .non) (h.set n ⟨.lst (xs ++ [d]), false⟩) else .bad
      | _ => .bad
    | _, _ => .bad
  else if m = "extend" then match x, ds with
    | .r n, [.lst ys] => match h[n]? with
      | some ⟨.lst xs, false⟩ => if xs.length + ys.length ≤ sizeLine then .ok (vD .non) (h.set n ⟨.lst (xs ++ ys), false⟩) else .bad
      | _ => .bad
    | _, _ => .bad
  else if m = "clear" then match x, ds with
    | .r n, [] => match h[n]? with
      | some ⟨.lst _, false⟩ => .ok (vD .non) (h.set n ⟨.lst [], false⟩)
      | some ⟨.dic _, false⟩ => .ok (vD .non) (h.set n ⟨.dic [], false⟩)
      | _ => .bad
    | _, _ => .bad
  else if m = "pop" then match x, ds with
    | .r n, [] => match h[n]? with
      | some ⟨.lst xs, false⟩ => match xs[xs.length - 1]? with
        | some y => .ok (vD y) (h.set n ⟨.lst xs.dropLast, false⟩)
        | none => .bad
      | _ => .bad
    | _, _ => .bad
  else if m = "get" then match x.rd h with
    | some (.dic kvs) => match getD kvs ds with
      | some v => .ok v h
      | none => .bad
    | _ => .bad
  else .bad
/-- a cell that another one names -/
def subR (h : Cells) : W → D → Option Nat
  | .r m, k => match h[m]?, k with
    | some ⟨.dicR kvs, false⟩, k => match k.hk with
      | some kk => dget kvs kk
      | none => none
    | some ⟨.lstR ns, false⟩, .int i => match ixAt ns.length i with
      | some j => ns[j]?
      | none => none
    | _, _ => none
  | _, _ => none
/-- lists that a dict holds become plain values -/
def settleK : List (D × Nat) → Cells → Option (List (D × D) × Cells)
  | [], h => some ([], h)
  | (k, n) :: r, h => match h[n]? with
    | some ⟨ob, false⟩ => match ob.fzL with
      | some x => match settleK r (h.set n ⟨.gone x, false⟩) with
        | some (q, h') => some ((k, x) :: q, h')
        | none => none
      | none => none
    | _ => none
def settleL : List Nat → Cells → Option (List D × Cells)
  | [], h => some ([], h)
  | n :: r, h => match h[n]? with
    | some ⟨ob, false⟩ => match ob.fzL with
      | some x => match settleL r (h.set n ⟨.gone x, false⟩) with
        | some (q, h') => some (x :: q, h')
        | none => none
      | none => none
    | _ => none
def settleC (h : Cells) (n : Nat) : Option Cells := match h[n]? with
  | some ⟨.dicR kvs, false⟩ => match settleK kvs h with
    | some (q, h') => some (h'.set n ⟨.dic q, false⟩)
    | none => none
  | some ⟨.lstR ns, false⟩ => match settleL ns h with
    | some (q, h') => some (h'.set n ⟨.lst q, false⟩)
    | none => none
  | _ => some h
def settleV (v : Val) (h : Cells) : Out Val := match v with
  | .w (.r n) => match settleC h n with
    | some h' => .ok (.w (.r n)) h'
    | none => .bad
  | v => .ok v h
def pickM (ws : List W) (k : D) (h : Cells) : Out Val := match k with
  | .int i => match ixAt ws.length i with
    | some j => match ws[j]? with
      | some w => .ok (.w (w.norm h)) h
      | none => .bad
    | none => .bad
  | _ => .bad
def newOb (a : D) (v : Val) (h : Cells) : Out (D × Ob) := match v with
  | .new o => .ok (a, o) h
  | _ => .bad
/-- a receiver: an object just made stands in a cell for a while -/
def tmpM (v : Val) (h : Cells) : Out W := match v with
  | .w x => .ok x h
  | .new o => if o.liv = true then .ok (.r h.length) (h ++ [⟨o, false⟩]) else .bad
def tmpN (v : Val) (h : Cells) : Option Nat := match v with
  | .w _ => none
  | .new _ => some h.length
/-- .. and is forgotten -/
def Out.cutV (n : Option Nat) (o : Out Val) : Out Val := match n with
  | none => o
  | some n => match o with
    | .ok (.w (.d x)) h => .ok (vD x) (h.take n)
    | .ok _ _ => .bad
    | .exc e h => .exc e (h.take n)
    | .bad => .bad
mutual
def evalE (ρ : Env) : M → Cells → Out Val
  | .var i, h => match ρ[i]? with
    | some (some w) => .ok (.w (w.norm h)) h
    | _ => .bad
  | .con x, h => .ok (vD x) h
  | .glob x, h => match P.con x with
    | some d => .ok (vD d) h
    | none => .bad
  | .bin op a b, h => (evalE ρ a h).toW.bind fun x h => (evalE ρ b h).toW.bind fun y h => match x.rdu h, y.rdu h with
    | some p, some q => match binD op p q with
      | some v => .ok v h
      | none => .bad
    | _, _ => .bad
  | .neg a, h => (evalE ρ a h).toD.bind fun x h => match x with
    | .int i => .ok (vI (-i)) h
    | _ => .bad
  | .cmp op a b, h => (evalE ρ a h).toW.bind fun x h => (evalE ρ b h).toW.bind fun y h => (cmpM P cl op x y h).bind fun b h => .ok (vB b) h
  | .chain op op' a b c, h => (evalE ρ a h).toD.bind fun x h => (evalE ρ b h).toD.bind fun y h => match x, y with
    | .int i, .int j => match cmpI op i j with
      | some true => (evalE ρ c h).toD.bind fun z h => match z with
        | .int k => match cmpI op' j k with
          | some r => .ok (vB r) h
          | none => .bad
        | _ => .bad
      | some false => .ok (vB false) h
      | none => .bad
    | _, _ => .bad
  | .not a, h => (evalE ρ a h).toB.bind fun b h => .ok (vB (!b)) h
  | .and a b, h => (evalE ρ a h).toB.bind fun x h => if x then evalE ρ b h else .ok (vB false) h
  | .or a b, h => (evalE ρ a h).toB.bind fun x h => if x then .ok (vB true) h else evalE ρ b h
  | .ife c a b, h => (evalE ρ c h).toB.bind fun x h => if x then evalE ρ a h else evalE ρ b h
  | .tup es, h => (evalDs ρ es h).bind fun ds h => if ds.length ≤ sizeLine then .ok (vD (.tup ds)) h else .bad
  | .lst es, h => (evalDs ρ es h).bind fun ds h => if ds.length ≤ sizeLine then .ok (.new (.lst ds)) h else .bad
  | .lstS a es, h => (evalE ρ a h).toD.bind fun x h => match x with
    | .lst xs => (evalDs ρ es h).bind fun ds h => if xs.length + ds.length ≤ sizeLine then .ok (.new (.lst (xs ++ ds))) h else .bad
    | .tup xs => (evalDs ρ es h).bind fun ds h => if xs.length + ds.length ≤ sizeLine then .ok (.new (.lst (xs ++ ds))) h else .bad
    | _ => .bad
  | .dnew, h => .ok (.new (.dic [])) h
  | .call x es, h => if callOk P x es.length = true then (evalWs ρ es h).bind fun ws h => callM P cl x ws h else .bad
  | .callK x es ks vs, h => match P.kwa x es.length ks, P.cls x with
    | some arr, some _ => (evalWs ρ es h).bind fun ws h => (evalWs ρ vs h).bind fun zs h => match pickAll ws zs arr with
      | some us => makeK P cl x us h
      | none => .bad
    | none, none => if maxOk P x es.length ks = true then (evalWs ρ es h).bind fun ws h => (evalWs ρ vs h).bind fun zs h => maxDM ws zs h else .bad
    | _, _ => .bad
  | .isi a t, h => if tyOk P t = true then (evalE ρ a h).bind fun v h => match v.isi P h t with
    | some b => .ok (vB b) h
    | none => .bad
    else .bad
  | .meth o m es, h => (evalE ρ o h).toW.bind fun x h => match ownM P h x m with
    | some c => (evalWs ρ es h).bind fun ws h => cl c m (x :: ws) h
    | none => .bad
  | .bm o m es, h => (evalE ρ o h).bind fun v h => (tmpM v h).bind fun x h1 => (match x.lod h1 with
    | some t => if bmHas m t = true then (evalDs ρ es h1).bind fun ds h => if x.lod h = some t then bmM x m ds h else .bad else .bad
    | none => .bad : Out Val).cutV (tmpN v h)
  | .attr o f, h => (evalE ρ o h).toW.bind fun x h => attrM P cl x f h
  | .sub o i, h => (evalE ρ o h).toW.bind fun x h => (evalE ρ i h).toD.bind fun k h => match x.rd h with
    | some q => match subD q k with
      | some z => .ok (vD z) h
      | none => .bad
    | none => match subR h x k with
      | some n => .ok (.w (W.norm h (.r n))) h
      | none => .bad
  | .slice o lo hi, h => (evalE ρ o h).toW.bind fun x h => (evalO ρ lo h).bind fun l h => (evalO ρ hi h).bind fun u h => match x.rd h with
    | some q => match cutD q l u with
      | some v => .ok v h
      | none => .bad
    | none => .bad
  | .lc elt tg it cs, h => (evalI ρ it h).bind fun xs h =>
    (lcGo (fun x h => match bindT tg x ρ with
      | some ρ' => match cs with
        | some c => (evalE ρ' c h).toB.bind fun b h => if b then (evalE ρ' elt h).toD.bind fun y h => .ok (some y) h else .ok none h
        | none => (evalE ρ' elt h).toD.bind fun y h => .ok (some y) h
      | none => .bad) xs [] h).calm.bind fun ys h => .ok (.new (.lst ys)) h
  | .dc k v tg it cs, h => (evalI ρ it h).bind fun xs h =>
    (dcGo (fun x h => match bindT tg x ρ with
      | some ρ' => match cs with
        | some c => (evalE ρ' c h).toB.bind fun b h => if b then (evalE ρ' k h).toD.bind fun a h => (evalE ρ' v h).toD.bind fun b h => .ok (some (a, b)) h else .ok none h
        | none => (evalE ρ' k h).toD.bind fun a h => (evalE ρ' v h).toD.bind fun b h => .ok (some (a, b)) h
      | none => .bad) xs [] h).calm.bind fun ys h => .ok (.new (.dic ys)) h
  | .dcR k v tg it, h => (evalI ρ it h).bind fun xs h =>
    (dcGoR (fun x h => match bindT tg x ρ with
      | some ρ' => (evalE ρ' k h).toD.bind fun a h => (evalE ρ' v h).bind fun v h => newOb a v h
      | none => .bad) xs [] h).calm.bind fun ys h => .ok (.new (.dicR ys)) h
  | .settle m, h => (evalE ρ m h).bind fun v h => settleV v h
  | .pick es i, h => (evalWs ρ es h).bind fun ws h => if ws.length ≤ sizeLine then (evalE ρ i h).toD.bind fun k h => pickM ws k h else .bad
def evalDs (ρ : Env) : List M → Cells → Out (List D)
  | [], h => .ok [] h
  | e :: es, h => (evalE ρ e h).toD.bind fun x h => (evalDs ρ es h).bind fun xs h => .ok (x :: xs) h
def evalWs (ρ : Env) : List M → Cells → Out (List W)
  | [], h => .ok [] h
  | e :: es, h => (evalE ρ e h).toW.bind fun x h => (evalWs ρ es h).bind fun xs h => .ok (x :: xs) h
def evalO (ρ : Env) : Option M → Cells → Out (Option Int)
  | none, h => .ok none h
  | some e, h => (evalE ρ e h).toD.bind fun x h => match x with
    | .int i => .ok (some i) h
    | _ => .bad
def evalI (ρ : Env) : Wk → Cells → Out (List D)
  | .val e, h => (evalE ρ e h).toD.bind fun x h => match x with
    | .lst xs => .ok xs h
    | .tup xs => .ok xs h
    | .dic kvs => .ok (kvs.map (·.1)) h
    | _ => .bad
  | .range a, h => if P.free "range" = true then (evalE ρ a h).toD.bind fun x h => match x with
    | .int n => if -(2 ^ 62) ≤ n ∧ n < 2 ^ 62 then .ok (rangeD n) h else .bad
    | _ => .bad
    else .bad
  | .range2 a b, h => if P.free "range" = true then (evalE ρ a h).toD.bind fun x h => (evalE ρ b h).toD.bind fun y h => match x, y with
    | .int i, .int j => if -(2 ^ 62) ≤ i ∧ i < 2 ^ 62 ∧ -(2 ^ 62) ≤ j ∧ j < 2 ^ 62 then .ok (rangeD2 i j) h else .bad
    | _, _ => .bad
    else .bad
  | .items e, h => (evalE ρ e h).toD.bind fun x h => match x with
    | .dic kvs => .ok (kvs.map fun p => .tup [p.1, p.2]) h
    | _ => .bad
  | .values e, h => (evalE ρ e h).toD.bind fun x h => match x with
    | .dic kvs => .ok (kvs.map (·.2)) h
    | _ => .bad
  | .enum e, h => if P.free "enumerate" = true then (evalE ρ e h).toD.bind fun x h => match x with
    | .lst xs => .ok (enumD 0 xs) h
    | _ => .bad
    else .bad
end
end
end Pe
set_option maxHeartbeats 4000000
namespace Pe
open PySem
mutual
inductive S where
  | asg (tg : Tg) (own : Bool) (e : M) | unp (ts : List Nat) (e : M) | parO (ts : List Nat) (os : List Bool) (es : List M) | par (i j : Nat) (oi oj : Bool) (a b : M)
  | setA (o : M) (f : Str) (own : Bool) (e : M) | setI (o i e : M)
  | augN (i : Nat) (op : Operator) (e : M) | augI (o i : M) (op : Operator) (e : M)
  | expr (e : M) | ret (e : Option M) | ife (c : M) (a b : List S)
  | forr (tg : Tg) (it : Wk) (body : List S) | whil (c : M) (body : List S)
  | brk | cont | pass | nope | raise (c : Str) (es : List M) | tryy (body : List S) (hs : List Hd)
inductive Hd where
  | mk (c : Str) (slot : Option Nat) (body : List S)
end
inductive SOut where
  | nx (ρ : Env) (h : Cells) | rt (v : Val) (h : Cells) | bk (ρ : Env) (h : Cells) | ct (ρ : Env) (h : Cells) | exc (e : Ex) (ρ : Env) (h : Cells) | bad
/-- an expression, then .. -/
def Out.thenS {α : Type} (o : Out α) (ρ : Env) (f : α → Cells → SOut) : SOut := match o with
  | .ok a h => f a h
  | .exc e h => .exc e ρ h
  | .bad => .bad
def SOut.next (o : SOut) (f : Env → Cells → SOut) : SOut := match o with
  | .nx ρ h => f ρ h
  | o => o
/-- a value goes into a slot: an object just made as a cell, or for good -/
def bindV (own : Bool) (v : Val) (h : Cells) : Option (W × Cells) := match own, v with
  | true, .new o => some (.r h.length, h ++ [⟨o, false⟩])
  | _, v => v.arg.map fun w => (w, h)
def W.keep (n : Nat) : Option W → Option W
  | some (.r m) => if m < n then some (.r m) else none
  | w => w
/-- cells from n on are forgotten -/
def Env.keep (n : Nat) (ρ : Env) : Env := ρ.map (W.keep n)
/-- for: what a turn makes is forgotten behind it -/
def forGo (n : Nat) (f : D → Env → Cells → SOut) : List D → Env → Cells → SOut
  | [], ρ, h => .nx ρ h
  | x :: r, ρ, h => match f x ρ h with
    | .nx ρ h => forGo n f r (Env.keep n ρ) (h.take n)
    | .ct ρ h => forGo n f r (Env.keep n ρ) (h.take n)
    | .bk ρ h => .nx (Env.keep n ρ) (h.take n)
    | o => o
def whileGo (n0 : Nat) (c : Env → Cells → Out Bool) (f : Env → Cells → SOut) : Nat → Env → Cells → SOut
  | 0, _, _ => .bad
  | n + 1, ρ, h => (c ρ h).thenS ρ fun b h => if b then (match f ρ h with
    | .nx ρ h => whileGo n0 c f n (Env.keep n0 ρ) (h.take n0)
    | .ct ρ h => whileGo n0 c f n (Env.keep n0 ρ) (h.take n0)
    | .bk ρ h => .nx (Env.keep n0 ρ) (h.take n0)
    | o => o) else .nx ρ h
/-- o[i] = x in a cell -/
def putO (o : Ob) (i x : D) : Option Ob := match o, i with
  | .lst xs, .int k => match ixAt xs.length k with
    | some j => some (.lst (xs.set j x))
    | none => none
  | .dic kvs, k => match k.hk with
    | some kk => if kvs.length < sizeLine then some (.dic (dput kvs k kk x)) else none
    | none => none
  | _, _ => none
def putM (w : W) (i x : D) (h : Cells) : Out Unit := match w with
  | .r n => match h[n]? with
    | some ⟨o, false⟩ => match putO o i x with
      | some o' => .ok () (h.set n ⟨o', false⟩)
      | none => .bad
    | _ => .bad
  | _ => .bad
def augD : Operator → D → D → Option D
  | .Add, .int a, .int b => some (.int (a + b))
  | .Sub, .int a, .int b => some (.int (a - b))
  | _, _, _ => none
/-- several names at once, from a tuple or a list -/
def bindL : List Nat → List D → Env → Option Env
  | [], [], ρ => some ρ
  | i :: ts, x :: xs, ρ => bindL ts xs (ρ.set i (some (.d x)))
  | _, _, _ => none
def bindU (ts : List Nat) (x : D) (ρ : Env) : Option Env := match x with
  | .tup xs => bindL ts xs ρ
  | .lst xs => bindL ts xs ρ
  | _ => none
def bindWs : List Nat → List W → Env → Option Env
  | [], [], ρ => some ρ
  | i :: ts, x :: xs, ρ => bindWs ts xs (ρ.set i (some x))
  | _, _, _ => none
/-- values, some of which become cells -/
def evalOs (P : Prog) (cl : Cl) (ρ : Env) : List Bool → List M → Cells → Out (List W)
  | [], [], h => .ok [] h
  | o :: os, e :: es, h => (evalE P cl ρ e h).bind fun v h => match bindV o v h with
    | some (w, h) => (evalOs P cl ρ os es h).bind fun ws h => .ok (w :: ws) h
    | none => .bad
  | _, _, _ => .bad
def hsOk (P : Prog) : List Hd → Bool
  | [] => true
  | .mk c _ _ :: r => (P.exc c).isSome && hsOk P r
def catches (P : Prog) (c k : Str) : Bool := decide (c = k) || (match P.exc k with
  | some x => decide (c ∈ x.ups)
  | none => false)
section
variable (P : Prog) (cl : Cl) (wf : Nat)
mutual
def evalS : S → Env → Cells → SOut
  | .asg (.name i) own e, ρ, h => (evalE P cl ρ e h).thenS ρ fun v h => match bindV own v h with
    | some (w, h) => .nx (ρ.set i (some w)) h
    | none => .bad
  | .asg (.tup ts) _ e, ρ, h => (evalE P cl ρ e h).toD.thenS ρ fun x h => match bindT (.tup ts) x ρ with
    | some ρ => .nx ρ h
    | none => .bad
  | .unp ts e, ρ, h => (evalE P cl ρ e h).toD.thenS ρ fun x h => match bindU ts x ρ with
    | some ρ => .nx ρ h
    | none => .bad
  | .parO ts os es, ρ, h => (evalOs P cl ρ os es h).thenS ρ fun ws h => match bindWs ts ws ρ with
    | some ρ => .nx ρ h
    | none => .bad
  | .par i j oi oj a b, ρ, h => (evalE P cl ρ a h).thenS ρ fun v h => match bindV oi v h with
    | some (w, h) => (evalE P cl ρ b h).thenS ρ fun v' h => match bindV oj v' h with
      | some (w', h) => .nx ((ρ.set i (some w)).set j (some w')) h
      | none => .bad
    | none => .bad
  | .setA o f own e, ρ, h => (evalE P cl ρ e h).thenS ρ fun v h => match bindV own v h with
    | some (w, h) => (evalE P cl ρ o h).thenS ρ fun o h => match o with
      | .w (.r n) => match h[n]? with
        | some ⟨.ins c fs, false⟩ => match P.cls c with
          | some k => if f ∈ k.fields ∧ fs.length < 1000 ∧ w.lim n = true then .nx ρ (h.set n ⟨.ins c (aput fs f w), false⟩) else .bad
          | none => .bad
        | _ => .bad
      | _ => .bad
    | none => .bad
  | .setI o i e, ρ, h => (evalE P cl ρ e h).toD.thenS ρ fun x h => (evalE P cl ρ o h).toW.thenS ρ fun w h => (evalE P cl ρ i h).toD.thenS ρ fun k h => (putM w k x h).thenS ρ fun _ h => .nx ρ h
  | .augN i op e, ρ, h => match ρ[i]? with
    | some (some (.d x)) => (evalE P cl ρ e h).toD.thenS ρ fun y h => match augD op x y with
      | some z => .nx (ρ.set i (some (.d z))) h
      | none => .bad
    | _ => .bad
  | .augI o i op e, ρ, h => (evalE P cl ρ o h).toW.thenS ρ fun w h => (evalE P cl ρ i h).toD.thenS ρ fun k h => match w.rd h with
    | some q => match subD q k with
      | some x => (evalE P cl ρ e h).toD.thenS ρ fun y h => match augD op x y with
        | some z => (putM w k z h).thenS ρ fun _ h => .nx ρ h
        | none => .bad
      | none => .bad
    | none => .bad
  | .expr e, ρ, h => (evalE P cl ρ e h).thenS ρ fun _ h => .nx ρ h
  | .ret none, _, h => .rt (vD .non) h
  | .ret (some e), ρ, h => (evalE P cl ρ e h).thenS ρ fun v h => .rt v h
  | .ife c a b, ρ, h => (evalE P cl ρ c h).toB.thenS ρ fun x h => if x then evalSs a ρ h else evalSs b ρ h
  | .forr tg it body, ρ, h => (evalI P cl ρ it h).thenS ρ fun xs h => forGo h.length (fun x ρ h => match bindT tg x ρ with
    | some ρ => evalSs body ρ h
    | none => .bad) xs ρ h
  | .whil c body, ρ, h => whileGo h.length (fun ρ h => (evalE P cl ρ c h).toB) (fun ρ h => evalSs body ρ h) wf ρ h
  | .brk, ρ, h => .bk ρ h
  | .cont, ρ, h => .ct ρ h
  | .pass, ρ, h => .nx ρ h
  | .nope, _, _ => .bad
  | .raise c es, ρ, h => (evalDs P cl ρ es h).thenS ρ fun ds h => match P.exc c with
    | some x => if x.fields.length = ds.length then .exc ⟨c, x.fields.zip ds⟩ ρ h else .bad
    | none => .bad
  | .tryy body hs, ρ, h => if hsOk P hs = true then (match evalSs body ρ h with
    | .exc e ρ h => if (P.exc e.c).isSome = true then evalHs hs e ρ h else .bad
    | o => o) else .bad
def evalSs : List S → Env → Cells → SOut
  | [], ρ, h => .nx ρ h
  | s :: r, ρ, h => (evalS s ρ h).next fun ρ h => evalSs r ρ h
def evalHs : List Hd → Ex → Env → Cells → SOut
  | [], e, ρ, h => .exc e ρ h
  | .mk c none body :: r, e, ρ, h => if catches P c e.c then evalSs body ρ h else evalHs r e ρ h
  | .mk c (some i) body :: r, e, ρ, h => if catches P c e.c then (match evalSs body (ρ.set i (some (.d (.ins e.c e.fs)))) h with
    | .nx ρ h => .nx (ρ.set i none) h
    | .bk ρ h => .bk (ρ.set i none) h
    | .ct ρ h => .ct (ρ.set i none) h
    | .exc e ρ h => .exc e (ρ.set i none) h
    | o => o) else evalHs r e ρ h
end
end
structure FDef where
  ps : List Str
  ns : List Str
  body : List S
  keep : Bool := false
/-- what a def hands back -/
def finish (keep : Bool) (base : Nat) (v : Val) (h : Cells) : Out Val := if keep then .ok v h else match v with
  | .w (.r n) => if n < base then .ok v (h.take base) else match h[n]? with
    | some ⟨.gone x, _⟩ => .ok (vD x) (h.take base)
    | some ⟨ob, false⟩ => match ob.fz with
      | some _ => .ok (.new ob) (h.take base)
      | none => .bad
    | _ => .bad
  | .w (.d x) => .ok (.w (.d x)) (h.take base)
  | .new o => match o.fz with
    | some _ => .ok (.new o) (h.take base)
    | none => .bad
def runF (P : Prog) (cl : Cl) (wf : Nat) (F : FDef) (ws : List W) (h : Cells) : Out Val :=
  if ws.length = F.ps.length then match evalSs P cl wf F.body (ws.map some ++ List.replicate (F.ns.length - ws.length) none) h with
    | .rt v h' => finish F.keep h.length v h'
    | .nx _ h' => finish F.keep h.length (vD .non) h'
    | .exc e _ h' => .exc e (if F.keep then h' else h'.take h.length)
    | _ => .bad
  else .bad
/-- the defs, to a depth -/
def callN (P : Prog) (fn : Str → Str → Option FDef) (wf : Nat) : Nat → Cl
  | 0 => fun _ _ _ _ => .bad
  | n + 1 => fun c f ws h => match fn c f with
    | some F => runF P (callN P fn wf n) wf F ws h
    | none => .bad
end Pe
set_option maxHeartbeats 4000000
namespace Pe
open PySem PySem.Spec PyProof.Rows L2
/-! ### room, where no repr is under way -/
structure Room (k : Nat) (A : Around) : Prop extends L2.Room k A where
  gd : A.guards = some []
theorem Room.mono {j k : Nat} {A : Around} (r : Room k A) (h : j ≤ k) : Room j A := ⟨r.toRoom.mono h, r.gd⟩
theorem Room.deeper {k : Nat} {A : Around} (r : Room (k + 1) A) (env : PySem.Env) : Room k (A.deeper env) := ⟨r.toRoom.deeper env, r.gd⟩
theorem Room.in1 {k : Nat} {A : Around} (r : Room (k + 1) A) : Room k A.in1 := ⟨r.toRoom.in1, r.gd⟩
theorem make_gd {A : Around} {C : Addr} {us : List Value} {kw : List (Str × Value)} : (A.under (.builtin "type.__call__" ⟨.ref C :: us, kw⟩)).guards = A.guards := by
  have e : Code.guards (.builtin "type.__call__" ⟨.ref C :: us, kw⟩) = [] := by
    unfold Code.guards
    rw [if_neg (by simp [Code.isGuard, guardIds])]
  show pushGuards (Code.guards (.builtin "type.__call__" ⟨.ref C :: us, kw⟩)) A.guards = A.guards
  rw [e]; rfl
theorem Room.make {k : Nat} {A : Around} (r : Room (k + 1) A) (C : Addr) (us : List Value) (kw : List (Str × Value)) : Room k (A.under (.builtin "type.__call__" ⟨.ref C :: us, kw⟩)) :=
  ⟨r.toRoom.make C us kw, make_gd.trans r.gd⟩
/-- a def's promise, in such a room -/
structure FnOk (P : Program) (w : World) (K : PySem.W.Frag) (mg : Str → Option Value) (base : Heap) (CX : CXT) (k : Nat) (f : Addr) (fd : FuncData) (ps : List Str) (sp : Sp) : Prop where
  len : ∀ vs H Q E, sp vs H Q E → vs.length = ps.length
  run : ∀ (A : Around) (out : List PySem.Env) (s : Shared) (H : Hp) (ar : Args) (us : List Value) (vs : List V) (Q : VK) (E : XK),
    Room k A → Env0 P w K mg base A out s H → BindsTo s fd ar (ps.zip us) → Vals vs us → sp vs H Q E → codeAny (model P w) A (.call (.ref f) ar) (CR CX out P w H s Q E) s
def FnR (P : Program) (w : World) (K : PySem.W.Frag) (mg : Str → Option Value) (base : Heap) (CX : CXT) (k : Nat) (f : Addr) (sp : Sp) : Prop :=
  ∀ (A : Around) (out : List PySem.Env) (s : Shared) (H : Hp) (us : List Value) (vs : List V) (Q : VK) (E : XK),
    Room k A → Env0 P w K mg base A out s H → Vals vs us → sp vs H Q E → codeAny (model P w) A (.call (.ref f) ⟨us, []⟩) (CR CX out P w H s Q E) s
section
variable {P : Program} {w : World} {K : PySem.W.Frag} {mg : Str → Option Value} {base : Heap} {CX : CXT} {j k : Nat} {f : Addr} {fd : FuncData} {ps : List Str} {sp sp' : Sp}
theorem FnOk.mono (F : FnOk P w K mg base CX j f fd ps sp) (h : j ≤ k) : FnOk P w K mg base CX k f fd ps sp := ⟨F.len, fun A o s H ar us vs Q E r => F.run A o s H ar us vs Q E (r.mono h)⟩
theorem FnOk.imp (F : FnOk P w K mg base CX k f fd ps sp) (h : ∀ vs H Q E, sp' vs H Q E → sp vs H Q E) : FnOk P w K mg base CX k f fd ps sp' :=
  ⟨fun vs H Q E q => F.len vs H Q E (h _ _ _ _ q), fun A o s H ar us vs Q E r e b v q => F.run A o s H ar us vs Q E r e b v (h _ _ _ _ q)⟩
theorem FnR.mono (F : FnR P w K mg base CX j f sp) (h : j ≤ k) : FnR P w K mg base CX k f sp := fun A o s H us vs Q E r => F A o s H us vs Q E (r.mono h)
theorem FnR.imp (F : FnR P w K mg base CX k f sp) (h : ∀ vs H Q E, sp' vs H Q E → sp vs H Q E) : FnR P w K mg base CX k f sp' := fun A o s H us vs Q E r e v q => F A o s H us vs Q E r e v (h _ _ _ _ q)
theorem FnOk.raw {ds : List Value} {dvs : List V} (F : FnOk P w K mg base CX k f fd ps sp) (hb : Binds K fd ps ds) (hd : Vals dvs ds) : FnR P w K mg base CX k f (fun vs H Q E => sp (vs ++ dvs) H Q E) := fun A o s H us vs Q E r e v q =>
  have v2 := v.append hd
  F.run A o s H _ (us ++ ds) (vs ++ dvs) Q E r e (hb s us (e.mod.kin.keeps fun b o z => (e.bs b o z).1) (by rw [← v2.length]; exact F.len _ _ _ _ q)) v2 q
end
/-- a def of the text, by its body -/
theorem FunD.okG {P : Program} {w : World} {K : PySem.W.Frag} {mg : Str → Option Value} {base : Heap} {x qual : Str} {params : Arguments} {body : List Stmt} {scope : Scope} {dvs : List V} {kws : List (Str × V)} {f : Addr} {fd : FuncData} {CX : CXT} {N ps : List Str} {k : Nat} {sp : Sp}
    (F : FunD K x qual params body scope dvs kws f fd) (S : FnScope N ps scope) (len : ∀ vs H Q E, sp vs H Q E → vs.length = ps.length)
    (hb : ∀ (cdv : Value) (A : Around) (out : List PySem.Env) (s : Shared) (H : Hp) (vs : List V) (Q : VK) (E : XK), Room k (A.deeper (envOfC qual scope s.heap.objs.size f cdv)) → sp vs H Q E →
      ∃ t, PSs (cxOf CX P w K mg base N qual scope f cdv A out s H E) body t ∧ t { nx := fun _ H' => Q .non H', rt := Q } (L2.start N vs) H) : FnOk P w K mg base CX (k + 1) f fd ps sp := by
  obtain ⟨oc, od, dV, kV, doc, pm, an, cdv, ct, osl, rfl, lk, hcd, _, _⟩ := F.ex
  refine ⟨len, fun A out s H ar us vs Q E hr e0 bt rv hsp => ?_⟩
  have inK : K.In s.heap := e0.mod.kin.keeps fun b o z => (e0.bs b o z).1
  have par : ∀ y ∈ ps.zip us, scope.names.lookup y.1 = some .local ∨ (scope.names.lookup y.1 = some .cell ∧ ((cellsFrom (s.heap.objs.size + 1) scope.names []).lookup y.1).isSome = true) := fun y hy =>
    (S.par y.1 (List.of_mem_zip hy).1).imp id fun q => ⟨q, PySem.W.cellsFrom_some _ _ _ (.inl q)⟩
  have body_ok : ∀ env, env = envOfC qual scope s.heap.objs.size f cdv → ∀ s1, InCallC s s.heap.objs.size (PySem.bindL (envOfC qual scope s.heap.objs.size f cdv).kindOf (ps.zip us) fun _ => none) (cellsFrom (s.heap.objs.size + 1) scope.names []) (PySem.bindC (envOfC qual scope s.heap.objs.size f cdv).kindOf (ps.zip us) fun _ => none) s1 →
      wpAny (model P w) (A.deeper env) (execs body env) (fun fl s' => CR CX out P w H s Q E (.ok (.ret (match fl with | .ret v => v | _ => .none))) s') (fun e s' => (cxOf CX P w K mg base N qual scope f cdv A out s H E).xe e s') s1 := fun env he s1 x => by
    subst he
    obtain ⟨t, ht, hq⟩ := hb cdv A out s H vs Q E (hr.deeper _) hsp
    have I := inv_start (CX := CX) (qual := qual) (f := f) (cd := cdv) (E := E) S hr.hd e0 (len _ _ _ _ hsp) rv x
    refine wpAny_mono (ht.run [] s1 (L2.start N vs) H _ I hq) (fun fl s' z => ?_) fun e s' z => z
    cases fl with
    | ret u => obtain ⟨v, σ', H', J, r', q⟩ := z; exact ⟨v, H', J.os, J.bare, J.base, J.hok, r', q⟩
    | next => obtain ⟨σ', H', J, q⟩ := z; exact ⟨.non, H', J.os, J.bare, J.base, J.hok, rfl, q⟩
    | brk => obtain ⟨_, _, _, q⟩ := z; exact q.elim
    | cont => obtain ⟨_, _, _, q⟩ := z; exact q.elim
  refine codeAny_call_function hr.depth (inK _ _ lk) rfl S.co S.gen rfl (PySem.W.codeRec_of inK hcd) (bt _ _ _ _ (wpAny_newFunctionEnv_cells S.kind par fun env he s1 x => ?_))
  subst he
  have b := body_ok _ rfl s1 x
  exact ⟨(e0.mod.nolimit.keeps fun b o z => (e0.bs b o z).1).keeps x.toInCall.keep, codeAny_func (wpAny_mono b (fun fl s' z => by cases fl <;> exact z) fun e s' z => z)⟩
/-- a property is read -/
theorem getpropG {X : Cx} {CX : CXT} {k : Nat} {C p g a dx : Addr} {fs : List (Str × V)} {f : Str} {fd : FuncData} {ps : List Str} {sp : Sp} {E : XK} {pins : List (Addr × Obj)} {σ : L2.St} {H : Hp} {s : Shared} {Q : VK} {b : Bool} {E' : Value → Shared → Prop}
    (I : Inv X pins σ H s) (ea : H a = some (.ins C dx fs)) (c : Cls X.K C) (hp : PropOf X.K C f p g) (F : FnOk X.prog X.w X.K X.mg X.base CX k g fd ps sp) (hr : Room (k + 1) X.A) (hb : Binds X.K fd ps []) (hx : Passes CX X.nox E) (h : sp [.ref a] H Q E) :
    wpAny (model X.prog X.w) X.A (getAttr (.ref a) f b) (EP X pins σ Q) E' s := by
  obtain ⟨mA, O, _, _, _, _⟩ := ins_get I.hok ea
  obtain ⟨od, J, _⟩ := O.look
  obtain ⟨rest, hrec⟩ := hp.rec_
  have I1 := I.tok (s.toks + 1)
  have ex : (PySem.W.clsIn X.K C).isSome = true := by
    obtain ⟨cd, z, _⟩ := PySem.W.any_some c.hd
    rw [z]; rfl
  have fnd := PySem.W.findObj_data (od := od) ex hp.at_ hp.get hp.tak
  have run := F.run X.A.in1 X.stack { s with toks := s.toks + 1 } H ⟨[.ref a], []⟩ [.ref a] [.ref a] Q E hr.in1 I1.env0.in1 (hb _ [.ref a] I1.kIn (F.len _ _ _ _ h)) (.cons rfl .nil) h
  refine PySem.W.get_bind I.kIn J (PySem.W.plainGet_of (c.get f)).1 fnd (PySem.W.plainGet_of (c.get f)).2 (wpAny_call (PySem.W.prop_get (s := { s with toks := s.toks + 1 }) I.kIn hrec (codeAny_mono run fun r s' hq => ?_)))
  match r, hq with
  | .error er, hq => exact (hx pins σ H _ er s' (I1.wish _) hq).elim
  | .ok (.ret u), hq =>
    obtain ⟨v, H', I3, rv, q3⟩ := I1.after hq
    show wpAny _ _ (handedOut u) _ _ _
    rw [PySem.W.handedOut_of (handed_of rv)]
    exact wpAny_pure ⟨v, H', I3, rv, q3⟩
  | .ok .next, hq => exact hq.elim
  | .ok .brk, hq => exact hq.elim
  | .ok .cont, hq => exact hq.elim
end Pe
set_option maxHeartbeats 4000000
/-! ## dicts with keys of any kind: the look-up at the library's level -/
namespace Pe
open PySem PySem.Spec PyProof.Rows
/-- the entries es are entries of the keys ks -/
structure Ents (w : World) (h : Heap) (es : Array DictEntry) (ks : List NestedKey) : Prop where
  len : es.size = ks.length
  at_ : ∀ (j : Nat) (e : DictEntry), es[j]? = some e → ∃ k, ks[j]? = some k ∧ e.hash = k.hash w ∧ NestedIs h k e.key ∧ k.depth ≤ 8
  nd : ks.Nodup
theorem nodup_at {ks : List NestedKey} (hn : ks.Nodup) {i j : Nat} {k : NestedKey} (a : ks[i]? = some k) (b : ks[j]? = some k) : i = j :=
  (List.getElem?_inj (List.getElem?_eq_some_iff.mp a).1 hn).mp (a.trans b.symm)
section
variable {prog : Program} {w : World} {A : Around} {E : Value → Shared → Prop} {s : Shared}
theorem eqb_key {x y : NestedKey} {a b : Value} {Q : Bool → Shared → Prop} (hx : NestedIs s.heap x a) (hy : NestedIs s.heap y b) (dx : x.depth ≤ 8) (hu : A.units + 8 < cLine) (h : Q (decide (x = y)) s) : wpAny (model prog w) A (eqBool a b) Q E s :=
  eqAt_key x y A s a b hx hy (by omega) _ _ _ _ (by rw [← NestedKey.decide_eq]; exact h)
theorem tell_key {key : Value} {k : NestedKey} {st : List Value} {Q : Bool → Shared → Prop} (hk : NestedIs s.heap k key) (d8 : k.depth ≤ 8) (hst : ∀ v ∈ st, ∃ k', NestedIs s.heap k' v ∧ k'.depth ≤ 8) (h : Q false s) : wpAny (model prog w) A (tableMayTell key st) Q E s := by
  unfold tableMayTell
  split
  · exact wpAny_pure h
  refine wpAny_bind (quiet_key k key 8 s hk d8 A E _ ?_)
  simp only [Bool.not_true, Bool.false_eq_true, if_false]
  refine wpAny_bind (wpAny_forIn_list _ (fun r b t => t = s ∧ b = (none, ()) ∧ ∀ v ∈ r, ∃ k', NestedIs s.heap k' v ∧ k'.depth ≤ 8) _ ?_ ?_ _ _ ⟨rfl, rfl, hst⟩)
  · rintro x r b t ⟨rfl, rfl, hr⟩
    obtain ⟨k', h1, h2⟩ := hr x List.mem_cons_self
    refine wpAny_bind (quiet_key k' x 8 t h1 h2 A E _ ?_)
    simp only [Bool.not_true, Bool.false_eq_true, if_false]
    exact wpAny_pure ⟨rfl, rfl, fun v hv => hr v (List.mem_cons_of_mem _ hv)⟩
  · rintro b t ⟨rfl, rfl, _⟩
    exact wpAny_pure h
theorem bv_none {h : Heap} {x : Str} {t : Tok} {k : NestedKey} (hk : NestedIs h k (.str x t)) : k = .text x := by
  cases hk; rfl
theorem isStr_key {h : Heap} {x : Str} {k : NestedKey} {v : Value} (hk : NestedIs h k v) : v.isStr x = decide (k = .text x) := by
  cases hk with
  | text y t =>
    show (y == x) = _
    by_cases e : y = x
    · subst e; simp
    · rw [decide_eq_false (fun z => e (by injection z))]
      simpa using e
  | none => simp [Value.isStr]
  | bool _ => simp [Value.isStr]
  | int _ _ => simp [Value.isStr]
  | tup _ _ _ _ => simp [Value.isStr]
/-- where the walk over the places of one hash stands -/
def AtPl (w : World) (es : Array DictEntry) (k : NestedKey) (i : Nat) (r : List Nat) : Prop :=
  i ≤ es.size ∧ r = (List.range' i (es.size - i)).filter fun i => (es[i]?.map (·.hash)) == some (k.hash w)
theorem AtPl.start {es : Array DictEntry} {k : NestedKey} : AtPl w es k 0 (placesWithHash es.size (fun i => es[i]?.map (·.hash)) (k.hash w)) :=
  ⟨Nat.zero_le _, by unfold placesWithHash; rw [List.range_eq_range', Nat.sub_zero]⟩
theorem AtPl.next {es : Array DictEntry} {k : NestedKey} {i x : Nat} {r : List Nat} (a : AtPl w es k i (x :: r)) : i ≤ x ∧ x < es.size ∧ AtPl w es k (x + 1) r ∧ ∀ j, i ≤ j → j < x → (es[j]?.map (·.hash)) ≠ some (k.hash w) := by
  obtain ⟨hi, hr⟩ := a
  obtain ⟨h1, h2, h3, h4, h5⟩ := filter_range'_cons _ _ _ _ _ hr.symm
  refine ⟨h1, by omega, ⟨by omega, by rw [h5]; congr 2; omega⟩, fun j a b => ?_⟩
  simpa using h4 j a b
theorem AtPl.last {es : Array DictEntry} {k : NestedKey} {i : Nat} (a : AtPl w es k i []) : ∀ j, i ≤ j → j < es.size → (es[j]?.map (·.hash)) ≠ some (k.hash w) := fun j h1 h2 => by
  have := List.filter_eq_nil_iff.mp a.2.symm j (List.mem_range'_1.mpr ⟨h1, by omega⟩)
  simpa using this
theorem Ents.hash_at {h : Heap} {es : Array DictEntry} {ks : List NestedKey} (n : Ents w h es ks) {j : Nat} {k : NestedKey} (hj : ks[j]? = some k) : (es[j]?.map (·.hash)) = some (k.hash w) := by
  have hl : j < es.size := by rw [n.len]; exact (List.getElem?_eq_some_iff.mp hj).1
  obtain ⟨k', h1, h2, _⟩ := n.at_ j es[j] (Array.getElem?_eq_getElem hl)
  rw [hj] at h1; cases h1
  rw [Array.getElem?_eq_getElem hl, Option.map_some, h2]
/-- what was met so far -/
def Hit (ks : List NestedKey) (k : NestedKey) (i : Nat) (hit : Option Nat) : Prop := (hit = none ∧ ∀ j : Nat, j < i → ks[j]? ≠ some k) ∨ ∃ j, hit = some j ∧ j < i ∧ ks[j]? = some k
theorem Hit.skip {ks : List NestedKey} {k : NestedKey} {i x : Nat} {hit : Option Nat} (h : Hit ks k i hit) (hx : i ≤ x) (no : ∀ j, i ≤ j → j < x → ks[j]? ≠ some k) : Hit ks k x hit := by
  rcases h with ⟨z, n⟩ | ⟨j, z, hj, e⟩
  · refine .inl ⟨z, fun j hj e => ?_⟩
    rcases Nat.lt_or_ge j i with q | q
    · exact n j q e
    · exact no j q hj e
  · exact .inr ⟨j, z, by omega, e⟩
theorem Hit.stay {ks : List NestedKey} {k k' : NestedKey} {x : Nat} {hit : Option Nat} (h : Hit ks k x hit) (hx : ks[x]? = some k') (ne : ¬ k' = k) : Hit ks k (x + 1) hit := by
  refine h.skip (Nat.le_succ x) fun j h1 h2 e => ?_
  have : j = x := by omega
  subst this
  rw [hx] at e; exact ne (Option.some.inj e)
theorem find_key {d : Addr} {key : Value} {o : Obj} {es : Array DictEntry} {ep : Nat} {ks : List NestedKey} {k : NestedKey} {Q : Option Nat → Shared → Prop} (hu : A.units + 8 < cLine) (hk : NestedIs s.heap k key) (d8 : k.depth ≤ 8)
    (ho : s.heap.get? d = some o) (hd : o.data = .dict es ep) (n : Ents w s.heap es ks) (h0 : (∀ j : Nat, ks[j]? ≠ some k) → Q none s) (h1 : ∀ j : Nat, ks[j]? = some k → Q (some j) s) : wpAny (model prog w) A (dictFind d key (k.hash w)) Q E s := by
  have hmem : ∀ v ∈ (placesWithHash es.size (fun i => es[i]?.map (·.hash)) (k.hash w)).filterMap (fun i => es[i]?.map (·.key)), ∃ k', NestedIs s.heap k' v ∧ k'.depth ≤ 8 := by
    intro v hv
    obtain ⟨i, _, hi⟩ := List.mem_filterMap.mp hv
    cases q : es[i]? with
    | none => rw [q] at hi; cases hi
    | some e =>
      rw [q] at hi
      cases hi
      obtain ⟨k', _, _, a, b⟩ := n.at_ i e q
      exact ⟨k', a, b⟩
  have hany : ¬ (es.any fun e => e.key == key && e.hash != k.hash w) = true := by
    rw [Array.any_eq_true]
    rintro ⟨i, hi, hc⟩
    obtain ⟨k', _, a, b, _⟩ := n.at_ i es[i] (Array.getElem?_eq_getElem hi)
    simp only [Bool.and_eq_true, beq_iff_eq, bne_iff_ne, ne_eq] at hc
    rw [hc.1] at b
    exact hc.2 (by rw [a, NestedIs.inj _ _ _ b hk])
  have plain : wpAny (model prog w) A (dictWalkPlain d key (k.hash w) es (placesWithHash es.size (fun i => es[i]?.map (·.hash)) (k.hash w))) Q E s := by
    unfold dictWalkPlain
    refine wpAny_bind (wpAny_forIn_list _ (fun r b t => t = s ∧ b = (none, ()) ∧ ∃ i, AtPl w es k i r ∧ ∀ j, j < i → ks[j]? ≠ some k) _ ?_ ?_ _ _ ⟨rfl, rfl, 0, AtPl.start, fun j h => absurd h (Nat.not_lt_zero _)⟩)
    · rintro x r b t ⟨rfl, rfl, i, ap, no⟩
      obtain ⟨a1, a2, a3, a4⟩ := ap.next
      obtain ⟨k', b1, b2, b3, b4⟩ := n.at_ x es[x] (Array.getElem?_eq_getElem a2)
      have stay : ¬ k' = k → ∃ i, AtPl w es k i r ∧ ∀ j, j < i → ks[j]? ≠ some k := fun ne => ⟨x + 1, a3, fun j hj e => by
        rcases Nat.lt_or_ge j i with q | q
        · exact no j q e
        · rcases Nat.lt_or_ge j x with q2 | q2
          · exact a4 j q q2 (n.hash_at e)
          · have : j = x := by omega
            subst this
            rw [b1] at e; exact ne (Option.some.inj e)⟩
      simp only [Array.getElem?_eq_getElem a2]
      by_cases hh : (es[x].hash == k.hash w) = true
      · rw [if_pos hh]
        refine wpAny_bind (wpAny_dictEpoch ho hd (wpAny_bind (eqb_key b3 hk b4 hu (wpAny_bind (wpAny_dictEpoch ho hd ?_)))))
        show wpAny _ _ (if (ep != ep) = true then _ else _) _ E _
        rw [if_neg (by simp)]
        by_cases e : k' = k
        · rw [decide_eq_true e]
          subst e
          exact wpAny_bind (wpAny_rule (wpAny_pure (wpAny_pure (h1 x b1))))
        · rw [decide_eq_false e]
          exact wpAny_bind (wpAny_rule (wpAny_pure ⟨rfl, rfl, stay e⟩))
      · rw [if_neg hh]
        exact wpAny_pure ⟨rfl, rfl, stay fun e => hh (by rw [b2, e]; simp)⟩
    · rintro b t ⟨rfl, rfl, i, ap, no⟩
      refine wpAny_pure (h0 fun j e => ?_)
      rcases Nat.lt_or_ge j i with q | q
      · exact no j q e
      · exact ap.last j q (by rw [n.len]; exact (List.getElem?_eq_some_iff.mp e).1) (n.hash_at e)
  have byStr : ∀ x t, key = .str x t → (es.all fun e => isExactStrKey e.key) = true → wpAny (model prog w) A (foundByValue d key es x) Q E s := by
    rintro x t rfl _
    have ek : k = .text x := bv_none hk
    subst ek
    have hf : ∀ (j : Nat) (e : DictEntry), es[j]? = some e → ∃ k', ks[j]? = some k' ∧ e.key.isStr x = decide (k' = .text x) := fun j e q => by
      obtain ⟨k', a, _, b, _⟩ := n.at_ j e q
      exact ⟨k', a, isStr_key b⟩
    unfold foundByValue
    cases q : es.findIdx? (fun e => e.key.isStr x) with
    | none =>
      refine wpAny_pure (h0 fun j e => ?_)
      have hl : j < es.size := by rw [n.len]; exact (List.getElem?_eq_some_iff.mp e).1
      obtain ⟨k', a, b⟩ := hf j es[j] (Array.getElem?_eq_getElem hl)
      rw [e] at a; cases a
      have z := Array.findIdx?_eq_none_iff.mp q es[j] (Array.getElem_mem hl)
      rw [b] at z
      simp at z
    | some i =>
      obtain ⟨hl, hi, _⟩ := Array.findIdx?_eq_some_iff_getElem.mp q
      simp only [Array.getElem?_eq_getElem hl]
      obtain ⟨k', b1, b2, b3, b4⟩ := n.at_ i es[i] (Array.getElem?_eq_getElem hl)
      have e : k' = .text x := by
        rw [isStr_key b3] at hi
        exact of_decide_eq_true hi
      refine wpAny_bind (wpAny_dictEpoch ho hd (wpAny_bind (eqb_key b3 hk b4 hu (wpAny_bind (wpAny_dictEpoch ho hd ?_)))))
      show wpAny _ _ (if (ep != ep) = true then _ else _) _ E _
      rw [if_neg (by simp), decide_eq_true e]
      subst e
      exact wpAny_bind (wpAny_rule (wpAny_pure (h1 i b1)))
  unfold dictFind
  try with_reducible refine wpAny_holding ?_
  refine wpAny_bind (wpAny_dictEntries ho hd ?_)
  dsimp only
  generalize hst : (placesWithHash es.size (fun i => es[i]?.map (·.hash)) (k.hash w)).filterMap (fun i => es[i]?.map (·.key)) = st at hmem
  by_cases hall : (key :: st).all carriedByValue = true
  · cases key <;> simp only [if_pos hall] <;> try exact plain
    split
    · exact byStr _ _ rfl (by assumption)
    · exact plain
  · have quiet : ∀ Q' : Bool → Shared → Prop, Q' false s → wpAny (model prog w) A (tableMayTell key st) Q' E s := fun Q' q => tell_key hk d8 hmem q
    have apart : ∀ {i j : Nat}, ks[i]? = some k → ks[j]? = some k → i = j := fun a b => nodup_at n.nd a b
    clear plain
    by_cases hone : (st == [key]) = true
    all_goals cases key <;> simp only [if_neg hall]
    all_goals try (by_cases hq : (es.all fun e => isExactStrKey e.key) = true; (rw [if_pos hq]; exact byStr _ _ rfl hq); rw [if_neg hq])
    all_goals try rw [if_neg hany]
    all_goals first | rw [if_pos hone] | rw [if_neg hone]
    all_goals first | refine wpAny_bind (wpAny_pure ?_) | refine wpAny_bind (quiet _ ?_)
    all_goals rw [if_neg (by simp)]
    all_goals refine wpAny_bind (wpAny_forIn_list _ (fun r b t => t = s ∧ ∃ i hit, b = (none, hit) ∧ AtPl w es k i r ∧ Hit ks k i hit) _ ?_ ?_ _ _ ⟨rfl, 0, none, rfl, AtPl.start, .inl ⟨rfl, fun _ h => absurd h (Nat.not_lt_zero _)⟩⟩)
    all_goals first
      | (rintro b t ⟨rfl, i, hit, rfl, ap, hH⟩
         rcases hH with ⟨rfl, no⟩ | ⟨j, rfl, _, hj⟩
         · refine wpAny_pure (h0 fun j e => ?_)
           rcases Nat.lt_or_ge j i with q | q
           · exact no j q e
           · exact ap.last j q (by rw [n.len]; exact (List.getElem?_eq_some_iff.mp e).1) (n.hash_at e)
         · exact wpAny_pure (h1 j hj))
      | skip
    all_goals rintro x r b t ⟨rfl, i, hit, rfl, ap, hH⟩
    all_goals obtain ⟨a1, a2, a3, a4⟩ := ap.next
    all_goals obtain ⟨k', b1, b2, b3, b4⟩ := n.at_ x es[x] (Array.getElem?_eq_getElem a2)
    all_goals have low := hH.skip a1 fun j p q e => a4 j p q (n.hash_at e)
    all_goals rw [Array.getElem?_eq_getElem a2]
    all_goals dsimp only
    all_goals by_cases hh : (es[x].hash == k.hash w) = true
    all_goals first | rw [if_pos hh] | rw [if_neg hh]
    all_goals first
      | exact wpAny_pure ⟨rfl, x + 1, hit, rfl, a3, low.stay b1 fun e => hh (by rw [b2, e]; simp)⟩
      | skip
    all_goals refine wpAny_bind (wpAny_dictEpoch ho hd (wpAny_bind (eqb_key b3 hk b4 hu (wpAny_bind (wpAny_dictEpoch ho hd ?_)))))
    all_goals (show wpAny _ _ (if (ep != ep) = true then _ else _) _ E _)
    all_goals rw [if_neg (by simp)]
    all_goals by_cases e : k' = k
    all_goals first | rw [decide_eq_true e] | rw [decide_eq_false e]
    all_goals simp only [Bool.false_eq_true, if_false, if_true, Bool.false_and]
    all_goals first
      | (refine wpAny_bind (wpAny_rule ?_)
         exact wpAny_pure ⟨rfl, x + 1, hit, rfl, a3, low.stay b1 e⟩)
      | skip
    all_goals subst e
    all_goals rcases low with ⟨rfl, no⟩ | ⟨j, rfl, hj, ej⟩
    all_goals first | exact absurd (apart ej b1) (by omega) | skip
    all_goals simp only [Option.isSome_none, Bool.false_eq_true, if_false]
    all_goals refine wpAny_bind (wpAny_rule ?_)
    all_goals split
    all_goals first
      | exact wpAny_pure (wpAny_pure (h1 x b1))
      | exact wpAny_pure ⟨rfl, x + 1, some x, rfl, a3, .inr ⟨x, rfl, Nat.lt_succ_self x, b1⟩⟩
end
end Pe
set_option maxHeartbeats 4000000
namespace Pe
open PySem PySem.Spec PyProof.Rows
section
variable {prog : Program} {w : World} {A : Around} {E : Value → Shared → Prop} {s : Shared} {d : Addr} {key : Value} {es : Array DictEntry} {ep : Nat} {ks : List NestedKey} {k : NestedKey}
abbrev tk (s : Shared) (k : NestedKey) : Shared := { s with toks := s.toks + k.draws }
theorem ents_get {h : Heap} (n : Ents w h es ks) {j : Nat} (hj : ks[j]? = some k) : ∃ e, es[j]? = some e := by
  have hl : j < es.size := by rw [n.len]; exact (List.getElem?_eq_some_iff.mp hj).1
  exact ⟨es[j], Array.getElem?_eq_getElem hl⟩
theorem dictGet_key {Q : Option Value → Shared → Prop} (hu : A.units + 8 < cLine) (hk : NestedIs s.heap k key) (d8 : k.depth ≤ 8) (hm : s.heap.DictRaw d es ep) (n : Ents w s.heap es ks)
    (h0 : (∀ j : Nat, ks[j]? ≠ some k) → Q none (tk s k)) (h1 : ∀ (j : Nat) e, ks[j]? = some k → es[j]? = some e → Q (some e.val) (tk s k)) : wpAny (model prog w) A (dictGet d key) Q E s := by
  obtain ⟨o, ho, _, hd⟩ := hm
  unfold dictGet
  try with_reducible refine wpAny_holding ?_
  refine wpAny_bind (pyHash_key k key A s _ hk (by omega) (wpAny_bind (find_key (s := tk s k) hu hk d8 ho hd n ?_ ?_)))
  · exact fun h => wpAny_pure (h0 h)
  · intro j hj
    obtain ⟨e, he⟩ := ents_get n hj
    refine wpAny_bind (wpAny_dictEntries (s := tk s k) ho hd ?_)
    rw [he]
    exact wpAny_pure (h1 j e hj he)
theorem dictSetH_key {v : Value} {Q : Unit → Shared → Prop} (hu : A.units + 8 < cLine) (hk : NestedIs s.heap k key) (d8 : k.depth ≤ 8) (hm : s.heap.DictRaw d es ep) (n : Ents w s.heap es ks) (hz : es.size ≤ sizeLine)
    (h0 : (∀ j : Nat, ks[j]? ≠ some k) → ∀ h' ep', h'.DictRaw d (es.push ⟨k.hash w, key, v⟩) ep' → Heap.SameBut d s.heap h' → Q () { s with heap := h' })
    (h1 : ∀ (j : Nat), ks[j]? = some k → ∀ h' ep', h'.DictRaw d (es.modify j fun e => { e with val := v }) ep' → Heap.SameBut d s.heap h' → Q () { s with heap := h' }) : wpAny (model prog w) A (dictSetHashed d key (k.hash w) v) Q E s := by
  obtain ⟨o, ho, hc, hd⟩ := hm
  unfold dictSetHashed
  try with_reducible refine wpAny_holding ?_
  refine wpAny_bind (find_key (s := s) hu hk d8 ho hd n ?_ ?_)
  · intro hno
    exact wpAny_bind (wpAny_rule (wpAny_updateDictKeys (hz := hz) ho hd (h0 hno _ (ep + 1) ⟨_, Heap.get?_update_self _ ho (Obj.isFreed_of_dict (Obj.data_mapDictKeys hd _)), hc.mapDictKeys _, Obj.data_mapDictKeys hd _⟩ (Heap.SameBut.update ..))))
  · intro j hj
    exact wpAny_bind (wpAny_rule (wpAny_bind (wpAny_updateDict ho hd (wpAny_point (h1 j hj _ ep ⟨_, Heap.get?_update_self _ ho (Obj.isFreed_of_dict (Obj.data_mapDict hd _)), hc.mapDict _, Obj.data_mapDict hd _⟩ (Heap.SameBut.update ..))))))
theorem dictSet_key {v : Value} {Q : Unit → Shared → Prop} (hu : A.units + 8 < cLine) (hk : NestedIs s.heap k key) (d8 : k.depth ≤ 8) (hm : s.heap.DictRaw d es ep) (n : Ents w s.heap es ks) (hz : es.size ≤ sizeLine)
    (h0 : (∀ j : Nat, ks[j]? ≠ some k) → ∀ h' ep', h'.DictRaw d (es.push ⟨k.hash w, key, v⟩) ep' → Heap.SameBut d s.heap h' → Q () { tk s k with heap := h' })
    (h1 : ∀ (j : Nat), ks[j]? = some k → ∀ h' ep', h'.DictRaw d (es.modify j fun e => { e with val := v }) ep' → Heap.SameBut d s.heap h' → Q () { tk s k with heap := h' }) : wpAny (model prog w) A (dictSet d key v) Q E s := by
  unfold dictSet
  try with_reducible refine wpAny_holding ?_
  refine wpAny_bind (pyHash_key k key A s _ hk (by omega) ?_)
  exact dictSetH_key (s := tk s k) hu hk d8 hm n hz h0 h1
/-- k in d -/
theorem in_key {Q : Value → Shared → Prop} (hu : A.units + 9 < cLine) (hk : NestedIs s.heap k key) (d8 : k.depth ≤ 8) (hd : (d == sysModules) = false) (hm : s.heap.DictRaw d es ep) (n : Ents w s.heap es ks)
    (h : Q (.bool (decide (k ∈ ks))) (tk s k)) : wpAny (model prog w) A (compareOp .In key (.ref d)) Q E s := by
  show wpAny _ _ (do return .bool (← contains (.ref d) key)) Q E s
  refine wpAny_bind ?_
  unfold contains
  try with_reducible refine wpAny_holding ?_
  refine wpAny_bind (wpAny_specialOf hm.typeIs slot_dict_contains.lookup ?_)
  show wpAny _ _ (if (some (Value.builtin "dict.__contains__") == some Value.none) = true then _ else _) _ E s
  rw [if_neg (by rw [beq_builtin_none]; exact Bool.false_ne_true)]
  refine wpAny_bind (wpAny_callSpecialUnlessNone?_slot (name := Str.ofString "__contains__") hm.typeIs slot_dict_contains (wpAny_call_entry slot_dict_contains hm.typeIs entry_dict_contains ?_ (args_dict_contains _ _)))
  show wpAny _ _ (dictGet d key >>= _) _ _ s
  refine wpAny_bind (dictGet_key (show A.in1.units + 8 < cLine by show A.units + 1 + 8 < cLine; omega) hk d8 hm n (fun no => ?_) fun j e hj he => ?_)
  · show wpAny _ _ (Builtin.Dict.pendingKey? d key >>= _) _ _ _
    have z : decide (k ∈ ks) = false := decide_eq_false fun m => by
      obtain ⟨j, hj⟩ := List.mem_iff_getElem?.mp m
      exact no j hj
    rw [z] at h
    exact wpAny_bind (wpAny_pendingKey_other hd (wpAny_pure ⟨_, rfl, wpAny_truthy_bool (wpAny_pure h)⟩))
  · have z : decide (k ∈ ks) = true := decide_eq_true (List.mem_iff_getElem?.mpr ⟨j, hj⟩)
    rw [z] at h
    show wpAny _ _ (ret (.bool true)) _ _ _
    exact wpAny_pure ⟨_, rfl, wpAny_truthy_bool (wpAny_pure h)⟩
/-- k not in d -/
theorem notIn_key {Q : Value → Shared → Prop} (hu : A.units + 9 < cLine) (hk : NestedIs s.heap k key) (d8 : k.depth ≤ 8) (hd : (d == sysModules) = false) (hm : s.heap.DictRaw d es ep) (n : Ents w s.heap es ks)
    (h : Q (.bool (!decide (k ∈ ks))) (tk s k)) : wpAny (model prog w) A (compareOp .NotIn key (.ref d)) Q E s := by
  show wpAny _ _ (do return .bool !(← contains (.ref d) key)) Q E s
  refine wpAny_bind ?_
  unfold contains
  try with_reducible refine wpAny_holding ?_
  refine wpAny_bind (wpAny_specialOf hm.typeIs slot_dict_contains.lookup ?_)
  show wpAny _ _ (if (some (Value.builtin "dict.__contains__") == some Value.none) = true then _ else _) _ E s
  rw [if_neg (by rw [beq_builtin_none]; exact Bool.false_ne_true)]
  refine wpAny_bind (wpAny_callSpecialUnlessNone?_slot (name := Str.ofString "__contains__") hm.typeIs slot_dict_contains (wpAny_call_entry slot_dict_contains hm.typeIs entry_dict_contains ?_ (args_dict_contains _ _)))
  show wpAny _ _ (dictGet d key >>= _) _ _ s
  refine wpAny_bind (dictGet_key (show A.in1.units + 8 < cLine by show A.units + 1 + 8 < cLine; omega) hk d8 hm n (fun no => ?_) fun j e hj he => ?_)
  · show wpAny _ _ (Builtin.Dict.pendingKey? d key >>= _) _ _ _
    have z : decide (k ∈ ks) = false := decide_eq_false fun m => by
      obtain ⟨j, hj⟩ := List.mem_iff_getElem?.mp m
      exact no j hj
    rw [z] at h
    exact wpAny_bind (wpAny_pendingKey_other hd (wpAny_pure ⟨_, rfl, wpAny_truthy_bool (wpAny_pure h)⟩))
  · have z : decide (k ∈ ks) = true := decide_eq_true (List.mem_iff_getElem?.mpr ⟨j, hj⟩)
    rw [z] at h
    show wpAny _ _ (ret (.bool true)) _ _ _
    exact wpAny_pure ⟨_, rfl, wpAny_truthy_bool (wpAny_pure h)⟩
/-- d[k], there -/
theorem getItem_key {Q : Value → Shared → Prop} (hu : A.units + 9 < cLine) (hk : NestedIs s.heap k key) (d8 : k.depth ≤ 8) (hm : s.heap.DictRaw d es ep) (n : Ents w s.heap es ks) {j : Nat} {e : DictEntry} (hj : ks[j]? = some k) (he : es[j]? = some e)
    (h : Q e.val (tk s k)) : wpAny (model prog w) A (getItem (.ref d) key) Q E s := by
  unfold getItem
  try with_reducible refine wpAny_holding ?_
  refine wpAny_bind (wpAny_sequenceKey hm.typeIs (by decide) ?_)
  refine wpAny_bind (wpAny_callSpecial?_slot (name := Str.ofString "__getitem__") hm.typeIs slot_dict_getitem (wpAny_call_entry slot_dict_getitem hm.typeIs entry_dict_getitem ?_ (args_dict_getitem _ _)))
  show wpAny _ _ (dictGet d key >>= _) _ _ s
  refine wpAny_bind (dictGet_key (show A.in1.units + 8 < cLine by show A.units + 1 + 8 < cLine; omega) hk d8 hm n (fun no => absurd hj (no j)) fun i e' hi he' => ?_)
  have ij := nodup_at n.nd hj hi
  subst ij
  rw [he] at he'; cases he'
  exact wpAny_pure ⟨e.val, rfl, wpAny_pure h⟩
/-- d[k] = v -/
theorem setItem_key {v : Value} {Q : Unit → Shared → Prop} (hu : A.units + 9 < cLine) (hk : NestedIs s.heap k key) (d8 : k.depth ≤ 8) (hm : s.heap.DictRaw d es ep) (n : Ents w s.heap es ks) (hz : es.size ≤ sizeLine)
    (h0 : (∀ j : Nat, ks[j]? ≠ some k) → ∀ h' ep', h'.DictRaw d (es.push ⟨k.hash w, key, v⟩) ep' → Heap.SameBut d s.heap h' → Q () { tk s k with heap := h' })
    (h1 : ∀ (j : Nat), ks[j]? = some k → ∀ h' ep', h'.DictRaw d (es.modify j fun e => { e with val := v }) ep' → Heap.SameBut d s.heap h' → Q () { tk s k with heap := h' }) : wpAny (model prog w) A (setItem (.ref d) key v) Q E s := by
  unfold setItem
  try with_reducible refine wpAny_holding ?_
  refine wpAny_bind (wpAny_sequenceKey hm.typeIs (by decide) ?_)
  refine wpAny_bind (wpAny_callSpecial?_slot (name := Str.ofString "__setitem__") hm.typeIs slot_dict_setitem (wpAny_call_entry slot_dict_setitem hm.typeIs entry_dict_setitem ?_ (args_dict_setitem _ _ _)))
  show wpAny _ _ (Builtin.Dict.notOrdered "__setitem__" ⟨[.ref d, key, v], []⟩ >>= _) _ _ s
  refine wpAny_bind (wpAny_notOrdered_dict hm.typeIs ?_)
  show wpAny _ _ (dictSet d key v >>= _) _ _ s
  exact wpAny_bind (dictSet_key (show A.in1.units + 8 < cLine by show A.units + 1 + 8 < cLine; omega) hk d8 hm n hz (fun no h' ep' m' sb => wpAny_pure ⟨.none, rfl, wpAny_pure (h0 no h' ep' m' sb)⟩) fun j hj h' ep' m' sb => wpAny_pure ⟨.none, rfl, wpAny_pure (h1 j hj h' ep' m' sb)⟩)
/-- dict.get -/
theorem meets_get_key (d : Addr) (key : Value) (hd : (d == sysModules) = false) : MeetsIn prog w (Builtin.«dict.get» ⟨[.ref d, key], []⟩) (fun A R s => A.units + 9 < cLine ∧ ∃ k es ep ks, NestedIs s.heap k key ∧ k.depth ≤ 8 ∧ s.heap.DictRaw d es ep ∧ Ents w s.heap es ks ∧
    ((∀ j : Nat, ks[j]? ≠ some k) → R (.ok (.ret .none)) (tk s k)) ∧ (∀ (j : Nat) e, ks[j]? = some k → es[j]? = some e → R (.ok (.ret e.val)) (tk s k))) :=
  .of_wp fun A R s ⟨hu, k, es, ep, ks, hk, d8, hm, n, h0, h1⟩ => by
    show wpAny _ _ (dictGet d key >>= _) _ _ s
    refine wpAny_bind (dictGet_key (show A.in1.units + 8 < cLine by show A.units + 1 + 8 < cLine; omega) hk d8 hm n (fun no => ?_) fun j e hj he => ?_)
    · show wpAny _ _ (Builtin.Dict.missed d key >>= _) _ _ _
      exact wpAny_bind (wpAny_missed_other hd (wpAny_pure ⟨.none, rfl, h0 no⟩))
    · exact wpAny_pure ⟨e.val, rfl, h1 j e hj he⟩
theorem meets_getD_key (d : Addr) (key dflt : Value) (hd : (d == sysModules) = false) : MeetsIn prog w (Builtin.«dict.get» ⟨[.ref d, key, dflt], []⟩) (fun A R s => A.units + 9 < cLine ∧ ∃ k es ep ks, NestedIs s.heap k key ∧ k.depth ≤ 8 ∧ s.heap.DictRaw d es ep ∧ Ents w s.heap es ks ∧
    ((∀ j : Nat, ks[j]? ≠ some k) → R (.ok (.ret dflt)) (tk s k)) ∧ (∀ (j : Nat) e, ks[j]? = some k → es[j]? = some e → R (.ok (.ret e.val)) (tk s k))) :=
  .of_wp fun A R s ⟨hu, k, es, ep, ks, hk, d8, hm, n, h0, h1⟩ => by
    show wpAny _ _ (dictGet d key >>= _) _ _ s
    refine wpAny_bind (dictGet_key (show A.in1.units + 8 < cLine by show A.units + 1 + 8 < cLine; omega) hk d8 hm n (fun no => ?_) fun j e hj he => ?_)
    · show wpAny _ _ (Builtin.Dict.missed d key >>= _) _ _ _
      exact wpAny_bind (wpAny_missed_other hd (wpAny_pure ⟨dflt, rfl, h0 no⟩))
    · exact wpAny_pure ⟨e.val, rfl, h1 j e hj he⟩
end
end Pe
set_option maxHeartbeats 4000000
namespace Pe
open PySem PySem.Spec PyProof.Rows L2
/-- a tuple of the written part -/
def WrT (K : PySem.W.Frag) (a : Addr) (xs : List V) : Prop := ∃ (o : Obj) (its : Array Value) (n : Nat), K.lookup a = some o ∧ o.cls = .type "tuple" ∧ o.data = .seq its n ∧ its.size ≤ sizeLine ∧ Vals xs its.toList
def TupA (K : PySem.W.Frag) (H : Hp) (a : Addr) (xs : List V) : Prop := H a = some (.tup xs) ∨ WrT K a xs
theorem TupA.sq {K : PySem.W.Frag} {H : Hp} {a : Addr} {xs : List V} (h : TupA K H a xs) : SqT K H a xs := h.imp (fun z => .inl z) fun z => z
mutual
/-- the value v is the key k -/
def KIs (K : PySem.W.Frag) (H : Hp) : NestedKey → V → Prop
  | .none, v => v = .non
  | .num i, v => v = .int i ∨ ∃ b : Bool, v = .bl b ∧ i = (if b = true then 1 else 0)
  | .text x, v => v = .str x
  | .tup ks, v => ∃ a vs, v = .ref a ∧ TupA K H a vs ∧ KIsA K H ks vs
def KIsA (K : PySem.W.Frag) (H : Hp) : List NestedKey → List V → Prop
  | [], vs => vs = []
  | k :: ks, vs => ∃ v r, vs = v :: r ∧ KIs K H k v ∧ KIsA K H ks r
end
mutual
theorem KIs.ext {K : PySem.W.Frag} {H H' : Hp} (e : ∀ a xs, H a = some (.tup xs) → H' a = some (.tup xs)) : ∀ (k : NestedKey) (v : V), KIs K H k v → KIs K H' k v
  | .none, v, h => h
  | .num _, v, h => h
  | .text _, v, h => h
  | .tup ks, v, h => by
    obtain ⟨a, vs, h1, h2, h3⟩ : ∃ a vs, v = .ref a ∧ TupA K H a vs ∧ KIsA K H ks vs := h
    exact ⟨a, vs, h1, h2.imp (e _ _) fun z => z, KIsA.ext e ks vs h3⟩
theorem KIsA.ext {K : PySem.W.Frag} {H H' : Hp} (e : ∀ a xs, H a = some (.tup xs) → H' a = some (.tup xs)) : ∀ (ks : List NestedKey) (vs : List V), KIsA K H ks vs → KIsA K H' ks vs
  | [], vs, h => h
  | k :: ks, vs, h => by
    obtain ⟨v, r, h1, h2, h3⟩ : ∃ v r, vs = v :: r ∧ KIs K H k v ∧ KIsA K H ks r := h
    exact ⟨v, r, h1, KIs.ext e k v h2, KIsA.ext e ks r h3⟩
end
section
variable {X : Cx} {pins : List (Addr × Obj)} {σ : L2.St} {H : Hp} {s : Shared}
mutual
theorem KIs.ok (I : Inv X pins σ H s) : ∀ (k : NestedKey) (v : V) (u : Value), KIs X.K H k v → L2.RelV v u → NestedIs s.heap k u
  | .none, v, u, h, r => by
    rw [show v = .non from h] at r
    rw [show u = Value.none from r]; exact .none
  | .num i, v, u, h, r => by
    rcases (show v = .int i ∨ ∃ b : Bool, v = .bl b ∧ i = (if b = true then 1 else 0) from h) with e | ⟨b, e, q⟩
    · rw [e] at r
      obtain ⟨t, rfl⟩ : ∃ t, u = Value.int i t := r
      exact .int i t
    · rw [e] at r
      rw [show u = Value.bool b from r]; exact .bool q
  | .text x, v, u, h, r => by
    rw [show v = .str x from h] at r
    obtain ⟨t, rfl⟩ : ∃ t, u = Value.str x t := r
    exact .text x t
  | .tup ks, v, u, h, r => by
    obtain ⟨a, vs, h1, h2, h3⟩ : ∃ a vs, v = .ref a ∧ TupA X.K H a vs ∧ KIsA X.K H ks vs := h
    rw [h1] at r
    rw [show u = Value.ref a from r]
    obtain ⟨its, rv, ⟨ob, e1, e2, n, e3⟩, _⟩ := I.tuple h2.sq
    exact .tup e1 e2 e3 (by simpa using KIsA.ok I ks vs its h3 rv)
theorem KIsA.ok (I : Inv X pins σ H s) : ∀ (ks : List NestedKey) (vs : List V) (us : List Value), KIsA X.K H ks vs → Vals vs us → NestedAll s.heap ks us
  | [], vs, us, h, r => by
    rw [show vs = [] from h] at r
    cases r; exact .nil
  | k :: ks, vs, us, h, r => by
    obtain ⟨v, q, h1, h2, h3⟩ : ∃ v r, vs = v :: r ∧ KIs X.K H k v ∧ KIsA X.K H ks r := h
    rw [h1] at r
    cases r with
    | cons a b => exact .cons (KIs.ok I k v _ h2 a) (KIsA.ok I ks q _ h3 b)
end
end
/-! ### the dict, tracked -/
abbrev DE := NestedKey × V × V
def EntIs (w : World) (p : DE) (e : DictEntry) : Prop := e.hash = p.1.hash w ∧ L2.RelV p.2.1 e.key ∧ L2.RelV p.2.2 e.val
def dicP (w : World) (a : Addr) (l : List DE) (h : Heap) : Prop := (a == sysModules) = false ∧ l.length ≤ sizeLine ∧ ∃ es ep, h.DictRaw a es ep ∧ Paired (EntIs w) l es.toList
def dicO (w : World) (a : Addr) (l : List DE) : HO := .ext (dicP w a l)
theorem dicP.stay {w : World} {a : Addr} {l : List DE} {h h' : Heap} (p : dicP w a l h) (k : ∀ o, h.get? a = some o → h'.get? a = some o) : dicP w a l h' :=
  let ⟨x, y, es, ep, m, r⟩ := p; ⟨x, y, es, ep, m.at k, r⟩
theorem dicO_ok {P : Program} {w' w : World} {H : Hp} {h : Heap} {a : Addr} {l : List DE} (p : dicP w a l h) : ObjOk P w' H h a (dicO w a l) :=
  ⟨p, let ⟨_, _, _, _, ⟨o, ho, _⟩, _⟩ := p; ⟨o, ho⟩, fun _ _ q k => q.stay k⟩
/-- keys once, and keys indeed -/
structure DicW (K : PySem.W.Frag) (H : Hp) (l : List DE) : Prop where
  nd : (l.map (·.1)).Nodup
  ks : ∀ p ∈ l, KIs K H p.1 p.2.1 ∧ p.1.depth ≤ 8
theorem DicW.ext {K : PySem.W.Frag} {H H' : Hp} {l : List DE} (d : DicW K H l) (e : ∀ a xs, H a = some (.tup xs) → H' a = some (.tup xs))   : DicW K H' l := ⟨d.nd, fun p hp => ⟨KIs.ext e _ _ (d.ks p hp).1, (d.ks p hp).2⟩⟩
def lget (l : List DE) (k : NestedKey) : Option V := (l.find? fun p => decide (p.1 = k)).map (·.2.2)
def lput (l : List DE) (k : NestedKey) (kv v : V) : List DE := if k ∈ l.map (·.1) then l.map (fun p => if p.1 = k then (p.1, p.2.1, v) else p) else l ++ [(k, kv, v)]
theorem pair_get {α β : Type} {R : α → β → Prop} : ∀ {l : List α} {es : List β}, Paired R l es → ∀ {j : Nat} {e : β}, es[j]? = some e → ∃ p, l[j]? = some p ∧ R p e
  | _, _, .nil, j, e, h => by simp at h
  | _, _, .cons r t, 0, e, h => by simp at h; subst h; exact ⟨_, rfl, r⟩
  | _, _, .cons r t, j + 1, e, h => by
    obtain ⟨p, a, b⟩ := pair_get t (by simpa using h)
    exact ⟨p, by simpa using a, b⟩
theorem pair_len {α β : Type} {R : α → β → Prop} : ∀ {l : List α} {es : List β}, Paired R l es → l.length = es.length
  | _, _, .nil => rfl
  | _, _, .cons r t => by simp [pair_len t]
theorem pair_app {α β : Type} {R : α → β → Prop} : ∀ {l : List α} {es : List β} {l' : List α} {es' : List β}, Paired R l es → Paired R l' es' → Paired R (l ++ l') (es ++ es')
  | _, _, _, _, .nil, q => q
  | _, _, _, _, .cons r t, q => .cons r (pair_app t q)
theorem lget_at {l : List DE} (nd : (l.map (·.1)).Nodup) {j : Nat} {p : DE} (h : l[j]? = some p) : lget l p.1 = some p.2.2 := by
  unfold lget
  induction l generalizing j with
  | nil => simp at h
  | cons x r ih =>
    rw [List.map_cons, List.nodup_cons] at nd
    cases j with
    | zero => simp at h; subst h; simp
    | succ j =>
      have h' : r[j]? = some p := by simpa using h
      have ne : ¬ x.1 = p.1 := fun e => nd.1 (e ▸ List.mem_map.mpr ⟨p, List.mem_of_getElem? h', rfl⟩)
      rw [List.find?_cons_of_neg (by simpa using ne)]
      exact ih nd.2 h'
theorem lget_none {l : List DE} {k : NestedKey} (h : lget l k = none) : ∀ j : Nat, (l.map (·.1))[j]? ≠ some k := fun j e => by
  unfold lget at h
  rw [Option.map_eq_none_iff, List.find?_eq_none] at h
  rw [List.getElem?_map] at e
  cases q : l[j]? with
  | none => rw [q] at e; cases e
  | some p =>
    rw [q] at e
    exact h p (List.mem_of_getElem? q) (by simpa using Option.some.inj e)
theorem lget_some {l : List DE} {k : NestedKey} {v : V} (h : lget l k = some v) : ∃ (j : Nat) (p : DE), l[j]? = some p ∧ p.1 = k ∧ p.2.2 = v := by
  unfold lget at h
  obtain ⟨p, h1, h2⟩ := Option.map_eq_some_iff.mp h
  obtain ⟨j, hj⟩ := List.mem_iff_getElem?.mp (List.mem_of_find?_eq_some h1)
  exact ⟨j, p, hj, by simpa using List.find?_some h1, h2⟩
theorem lget_mem {l : List DE} {k : NestedKey} : (lget l k).isSome = decide (k ∈ l.map (·.1)) := by
  cases h : lget l k with
  | none =>
    symm
    exact decide_eq_false fun m => by
      obtain ⟨j, hj⟩ := List.mem_iff_getElem?.mp m
      exact lget_none h j hj
  | some v =>
    symm
    obtain ⟨j, p, hj, e, _⟩ := lget_some h
    exact decide_eq_true (List.mem_map.mpr ⟨p, List.mem_of_getElem? hj, e⟩)
theorem lput_len (l : List DE) (k : NestedKey) (kv v : V) : (lput l k kv v).length ≤ l.length + 1 := by
  unfold lput
  split
  · rw [List.length_map]; omega
  · simp
theorem lput_keys (l : List DE) (k : NestedKey) (kv v : V) : (lput l k kv v).map (·.1) = if k ∈ l.map (·.1) then l.map (·.1) else l.map (·.1) ++ [k] := by
  unfold lput
  split
  · rw [List.map_map]
    refine List.map_congr_left fun p _ => ?_
    show (if p.1 = k then (p.1, p.2.1, v) else p).1 = p.1
    split <;> rfl
  · simp
theorem DicW.put {K : PySem.W.Frag} {H : Hp} {l : List DE} (d : DicW K H l) {k : NestedKey} {kv v : V} (hk : KIs K H k kv) (d8 : k.depth ≤ 8) : DicW K H (lput l k kv v) := by
  refine ⟨?_, fun p hp => ?_⟩
  · rw [lput_keys]
    split
    · exact d.nd
    · rename_i n
      rw [List.nodup_append]
      exact ⟨d.nd, by simp, fun x hx y hy => by simp at hy; subst hy; exact fun e => n (e ▸ hx)⟩
  · unfold lput at hp
    split at hp
    · obtain ⟨q, hq, rfl⟩ := List.mem_map.mp hp
      split <;> exact d.ks q hq
    · rcases List.mem_append.mp hp with h | h
      · exact d.ks p h
      · have : p = (k, kv, v) := by simpa using h
        subst this
        exact ⟨hk, d8⟩
section
variable {X : Cx} {pins : List (Addr × Obj)} {σ : L2.St} {H : Hp} {s : Shared} {a : Addr} {l : List DE} {A : Around} {E : Value → Shared → Prop}
theorem dic_rd (I : Inv X pins σ H s) (r : Rd H a (dicO X.w a l)) : dicP X.w a l s.heap := by
  obtain ⟨p, _⟩ : ObjOk X.prog X.w H s.heap a (dicO X.w a l) := r.ok I.hok
  exact p
theorem dic_ents {es : Array DictEntry} (I : Inv X pins σ H s) (d : DicW X.K H l) (r : Paired (EntIs X.w) l es.toList) : Ents X.w s.heap es (l.map (·.1)) := by
  refine ⟨?_, fun j e h => ?_, d.nd⟩
  · rw [List.length_map, pair_len r]; simp
  · obtain ⟨p, h1, h2, h3, h4⟩ := pair_get r (j := j) (e := e) (by simpa using h)
    obtain ⟨k1, k2⟩ := d.ks p (List.mem_of_getElem? h1)
    exact ⟨p.1, by rw [List.getElem?_map, h1]; rfl, h2, KIs.ok I _ _ _ k1 h3, k2⟩
theorem dic_write {h' : Heap} {t' : Nat} {l' : List DE} (I : Inv X pins σ H s) (e : H a = some (dicO X.w a l)) (hs : Heap.SameBut a s.heap h') (p : dicP X.w a l' h') : Inv X pins σ (upd H a (dicO X.w a l')) { s with heap := h', toks := t' } :=
  d_write I (by rw [e]; exact True.intro) hs (let ⟨_, _, _, _, ⟨o, ho, _⟩, _⟩ := p; ⟨o, ho⟩) (dicO_ok p)
theorem pair_put {w : World} {key v : Value} {kv vv : V} {k : NestedKey} {es : Array DictEntry} (nd : (l.map (·.1)).Nodup) (r : Paired (EntIs w) l es.toList) {j : Nat} (hj : (l.map (·.1))[j]? = some k) (rv : L2.RelV vv v) :
    Paired (EntIs w) (lput l k kv vv) (es.modify j fun e => { e with val := v }).toList := by
  have m : k ∈ l.map (·.1) := List.mem_iff_getElem?.mpr ⟨j, hj⟩
  unfold lput
  rw [if_pos m]
  rw [Array.toList_modify]
  generalize es.toList = el at r
  clear m
  induction r generalizing j with
  | nil => simp at hj
  | @cons p e l el re t ih =>
    rw [List.map_cons, List.nodup_cons] at nd
    cases j with
    | zero =>
      have hk : p.1 = k := by simpa using hj
      rw [List.map_cons, if_pos hk, List.modify_zero_cons]
      refine .cons ⟨re.1, re.2.1, rv⟩ ?_
      have : l.map (fun p => if p.1 = k then (p.1, p.2.1, vv) else p) = l := by
        conv => rhs; rw [← List.map_id l]
        refine List.map_congr_left fun q hq => ?_
        exact if_neg fun z => nd.1 (by rw [hk, ← z]; exact List.mem_map.mpr ⟨q, hq, rfl⟩)
      rw [this]; exact t
    | succ j =>
      have hj' : (l.map (·.1))[j]? = some k := by simpa using hj
      have ne : ¬ p.1 = k := fun z => nd.1 (z ▸ List.mem_iff_getElem?.mpr ⟨j, hj'⟩)
      rw [List.map_cons, if_neg ne, List.modify_succ_cons]
      exact .cons re (ih nd.2 hj')
/-- d[y] = v -/
theorem dic_set {key v : Value} {kv vv : V} {k : NestedKey} {Q : Unit → Shared → Prop} (hu : A.units + 9 < cLine) (I : Inv X pins σ H s) (e : H a = some (dicO X.w a l)) (d : DicW X.K H l) (hk : KIs X.K H k kv) (d8 : k.depth ≤ 8) (few : l.length < sizeLine) (ry : L2.RelV kv key) (rv : L2.RelV vv v)
    (h : ∀ s', Inv X pins σ (upd H a (dicO X.w a (lput l k kv vv))) s' → Q () s') : wpAny (model X.prog X.w) A (setItem (.ref a) key v) Q E s := by
  obtain ⟨p1, p2, es, ep, m, r⟩ := dic_rd I (.inl e)
  have en := dic_ents I d r
  have hz : es.size ≤ sizeLine := by rw [en.len, List.length_map]; exact p2
  have hl : (lput l k kv vv).length ≤ sizeLine := by have := lput_len l k kv vv; omega
  refine setItem_key hu (KIs.ok I _ _ _ hk ry) d8 m en hz (fun no h' ep' m' sb => h _ (dic_write (s := tk s k) (t' := s.toks + k.draws) (I.tok _) e sb ⟨p1, hl, _, ep', m', ?_⟩)) fun j hj h' ep' m' sb => h _ (dic_write (s := tk s k) (t' := s.toks + k.draws) (I.tok _) e sb ⟨p1, hl, _, ep', m', pair_put (key := key) d.nd r hj rv⟩)
  have n : k ∉ l.map (·.1) := fun z => by
    obtain ⟨j, hj⟩ := List.mem_iff_getElem?.mp z
    exact no j hj
  unfold lput
  rw [if_neg n, Array.toList_push]
  exact pair_app r (.cons ⟨rfl, ry, rv⟩ .nil)
end
end Pe
set_option maxHeartbeats 4000000
namespace Pe
open PySem PySem.Spec PyProof.Rows L2
section
variable {X : Cx}
/-- the dict at a, its look-up of y -/
def DLook (w : World) (K : PySem.W.Frag) (H : Hp) (a : Addr) (y : V) (o : Option V) : Prop := ∃ l k, Rd H a (dicO w a l) ∧ DicW K H l ∧ KIs K H k y ∧ k.depth ≤ 8 ∧ o = lget l k
theorem dl_get {pins : List (Addr × Obj)} {σ : L2.St} {H : Hp} {s : Shared} {a : Addr} {y : V} {u : Value} {o : Option V} {l : List DE} {k : NestedKey} (I : Inv X pins σ H s) (r : Rd H a (dicO X.w a l)) (d : DicW X.K H l) (hk : KIs X.K H k y) (ry : L2.RelV y u) (e : o = lget l k) :
    ∃ es ep, s.heap.DictRaw a es ep ∧ Ents X.w s.heap es (l.map (·.1)) ∧ NestedIs s.heap k u ∧ (o = none → ∀ j : Nat, (l.map (·.1))[j]? ≠ some k) ∧ ∀ v, o = some v → ∃ (j : Nat) (en : DictEntry), (l.map (·.1))[j]? = some k ∧ es[j]? = some en ∧ L2.RelV v en.val := by
  obtain ⟨p1, p2, es, ep, m, rr⟩ := dic_rd I r
  have en := dic_ents I d rr
  refine ⟨es, ep, m, en, KIs.ok I _ _ _ hk ry, fun h => lget_none (by rw [← e]; exact h), fun v h => ?_⟩
  obtain ⟨j, p, h1, h2, h3⟩ := lget_some (l := l) (k := k) (v := v) (by rw [← e]; exact h)
  have hj : (l.map (·.1))[j]? = some k := by rw [List.getElem?_map, h1, ← h2]; rfl
  obtain ⟨q, hq⟩ := ents_get en hj
  obtain ⟨p', g1, g2⟩ := pair_get rr (j := j) (e := q) (by simpa using hq)
  rw [h1] at g1; cases g1
  exact ⟨j, q, hj, hq, h3 ▸ g2.2.2⟩
theorem ix_dic (hu : X.A.units + 9 < cLine) : IxR X (fun x y H Q => ∃ a v, x = .ref a ∧ DLook X.w X.K H a y (some v) ∧ Q v H) := by
  intro value slice pins s σ H x y v u Q I rx ry h hs
  obtain ⟨a, z, rfl, ⟨l, k, r, d, hk, d8, eo⟩, q⟩ := h
  obtain rfl : v = Value.ref a := rx
  obtain ⟨es, ep, m, en, nk, _, hv⟩ := dl_get I r d hk ry eo
  obtain ⟨j, e, hj, he, rv⟩ := hv z rfl
  exact subscriptTail_builtinR (x := e.val) m.typeIs PySem.F.slot_dict_getitem.lookup (getItem_key (Q := fun r s' => r = e.val ∧ EP X pins σ Q r s') hu nk d8 m en hj he ⟨rfl, z, H, I.tok _, rv, q⟩) hs
theorem get_dic (hu : X.A.units + 9 < cLine) : PGet X (fun x y H Q => ∃ a v, x = .ref a ∧ DLook X.w X.K H a y (some v) ∧ Q v H) := by
  intro pins s σ H o i ov iv Q I ro ri h
  obtain ⟨a, z, rfl, ⟨l, k, r, d, hk, d8, eo⟩, q⟩ := h
  obtain rfl : ov = Value.ref a := ro
  obtain ⟨es, ep, m, en, nk, _, hv⟩ := dl_get I r d hk ri eo
  obtain ⟨j, e, hj, he, rv⟩ := hv z rfl
  exact getItem_key hu nk d8 m en hj he ⟨z, H, I.tok _, rv, q⟩
theorem set_dic (hu : X.A.units + 9 < cLine) : PSet X (fun o i v H Q => ∃ a l k, o = .ref a ∧ H a = some (dicO X.w a l) ∧ DicW X.K H l ∧ KIs X.K H k i ∧ k.depth ≤ 8 ∧ l.length < sizeLine ∧ Q (upd H a (dicO X.w a (lput l k i v)))) := by
  intro pins s σ H o i v ov iv u Q I ro ri rv h
  obtain ⟨a, l, k, rfl, e, d, hk, d8, few, q⟩ := h
  obtain rfl : ov = Value.ref a := ro
  exact dic_set hu I e d hk d8 few ri rv fun s' I' => ⟨_, I', q⟩
theorem op_in_dic (hu : X.A.units + 9 < cLine) : OpR X (compareOp .In) (fun x y H Q => ∃ a o, y = .ref a ∧ DLook X.w X.K H a x o ∧ Q (.bl o.isSome) H) := by
  intro pins s σ H x y v u Q I rx ry h
  obtain ⟨a, o, rfl, ⟨l, k, r, d, hk, d8, eo⟩, q⟩ := h
  obtain rfl : u = Value.ref a := ry
  obtain ⟨es, ep, m, en, nk, _, _⟩ := dl_get I r d hk rx eo
  have z : o.isSome = decide (k ∈ l.map (·.1)) := by rw [eo]; exact lget_mem
  obtain ⟨p1, _⟩ := dic_rd I r
  exact in_key hu nk d8 p1 m en ⟨.bl o.isSome, H, I.tok _, by rw [z]; rfl, q⟩
theorem op_notIn_dic (hu : X.A.units + 9 < cLine) : OpR X (compareOp .NotIn) (fun x y H Q => ∃ a o, y = .ref a ∧ DLook X.w X.K H a x o ∧ Q (.bl (!o.isSome)) H) := by
  intro pins s σ H x y v u Q I rx ry h
  obtain ⟨a, o, rfl, ⟨l, k, r, d, hk, d8, eo⟩, q⟩ := h
  obtain rfl : u = Value.ref a := ry
  obtain ⟨es, ep, m, en, nk, _, _⟩ := dl_get I r d hk rx eo
  have z : o.isSome = decide (k ∈ l.map (·.1)) := by rw [eo]; exact lget_mem
  obtain ⟨p1, _⟩ := dic_rd I r
  exact notIn_key hu nk d8 p1 m en ⟨.bl (!o.isSome), H, I.tok _, by rw [z]; rfl, q⟩
theorem mt_get_dic (hu : X.A.units + 9 < cLine) : MtR X "dict.get" (fun x xs H Q => ∃ a y o, x = .ref a ∧ xs = [y] ∧ DLook X.w X.K H a y o ∧ Q (o.getD .non) H) := by
  intro pins s σ H x xs v us Q I rx rs h
  obtain ⟨a, y, o, rfl, rfl, ⟨l, k, r, d, hk, d8, eo⟩, q⟩ := h
  obtain rfl : v = Value.ref a := rx
  obtain ⟨u, rfl, ry⟩ := Vals.one rs
  obtain ⟨es, ep, m, en, nk, no, hv⟩ := dl_get I r d hk ry eo
  obtain ⟨p1, _⟩ := dic_rd I r
  refine call_meetsIn PySem.F.slot_dict_get m.typeIs PySem.F.entry_dict_get (PySem.F.args_dict_get_2 _ _) (meets_get_key a u p1) ⟨hu, k, es, ep, _, nk, d8, m, en, fun n => ?_, fun j e hj he => ?_⟩
  · cases ho : o with
    | none => rw [ho] at q; exact ⟨.non, H, I.tok _, rfl, q⟩
    | some z =>
      obtain ⟨j, _, hj, _⟩ := hv z ho
      exact absurd hj (n j)
  · cases ho : o with
    | none => exact absurd hj (no ho j)
    | some z =>
      obtain ⟨j', e', hj', he', rv⟩ := hv z ho
      have := nodup_at en.nd hj hj'
      subst this
      rw [he] at he'; cases he'
      rw [ho] at q
      exact ⟨z, H, I.tok _, rv, q⟩
theorem mt_getD_dic (hu : X.A.units + 9 < cLine) : MtR X "dict.get" (fun x xs H Q => ∃ a y z o, x = .ref a ∧ xs = [y, z] ∧ DLook X.w X.K H a y o ∧ Q (o.getD z) H) := by
  intro pins s σ H x xs v us Q I rx rs h
  obtain ⟨a, y, zd, o, rfl, rfl, ⟨l, k, r, d, hk, d8, eo⟩, q⟩ := h
  obtain rfl : v = Value.ref a := rx
  obtain ⟨u, ud, rfl, ry, rd⟩ := Vals.two rs
  obtain ⟨es, ep, m, en, nk, no, hv⟩ := dl_get I r d hk ry eo
  obtain ⟨p1, _⟩ := dic_rd I r
  refine call_meetsIn PySem.F.slot_dict_get m.typeIs PySem.F.entry_dict_get (PySem.F.args_dict_get_3 _ _ _) (meets_getD_key a u ud p1) ⟨hu, k, es, ep, _, nk, d8, m, en, fun n => ?_, fun j e hj he => ?_⟩
  · cases ho : o with
    | none => rw [ho] at q; exact ⟨zd, H, I.tok _, rd, q⟩
    | some z =>
      obtain ⟨j, _, hj, _⟩ := hv z ho
      exact absurd hj (n j)
  · cases ho : o with
    | none => exact absurd hj (no ho j)
    | some z =>
      obtain ⟨j', e', hj', he', rv⟩ := hv z ho
      have := nodup_at en.nd hj hj'
      subst this
      rw [he] at he'; cases he'
      rw [ho] at q
      exact ⟨z, H, I.tok _, rv, q⟩
theorem dict_raw_len {A : Around} {E : Value → Shared → Prop} {prog : Program} {w : World} {s : Shared} {d : Addr} {es : Array DictEntry} {ep : Nat} {Q : Value → Shared → Prop} (hd : (d == sysModules) = false) (hm : s.heap.DictRaw d es ep) (hf : (es.size : Int) < 2 ^ 63)
    (h : Q (.int es.size (s.toks + 1)) { s with toks := s.toks + 1 + 1 }) : wpAny (model prog w) A (call (.builtin "len") [.ref d]) Q E s := by
  refine Calls.call_function_entry kind_len plain_len entry_len (args_len1 _) ?_
  unfold Builtin.«len»
  refine wpAny_bind (m := oneArg "len" _) (wpAny_pure ?_)
  refine wpAny_bind (m := callSpecial? (.ref d) (Str.ofString "__len__")) (wpAny_callSpecial?_slot (name := Str.ofString "__len__") hm.typeIs F.slot_dict_len (call_len_raw hd hm ?_))
  show wpAny _ _ _ _ _ { s with toks := s.toks + 1 }
  refine wpAny_bind (wpAny_holding (wpAny_pure ?_))
  refine wpAny_bind (wpAny_letGo ?_)
  show wpAny _ _ (if ((es.size : Nat) : Int) < 0 then _ else _) _ _ _
  rw [if_neg (by omega)]
  show wpAny _ _ (if ((es.size : Nat) : Int) ≥ 2 ^ 63 then _ else _) _ _ _
  rw [if_neg (by omega)]
  exact wpAny_bind (wpAny_mkInt (wpAny_pure ⟨_, rfl, h⟩))
theorem cr_len_dic : CallR X (.builtin "len") (fun xs H Q => ∃ a l, xs = [.ref a] ∧ Rd H a (dicO X.w a l) ∧ Q (.int l.length) H) := by
  intro pins s σ H xs us Q I rs h
  obtain ⟨a, l, rfl, r, q⟩ := h
  obtain ⟨u, rfl, ru⟩ := Vals.one rs
  obtain rfl : u = Value.ref a := ru
  obtain ⟨p1, p2, es, ep, m, rr⟩ := dic_rd I r
  have e : l.length = es.size := by rw [pair_len rr]; simp
  have z : sizeLine = 16777216 := sizeLine_eq
  refine dict_raw_len p1 m (by omega) ⟨.int l.length, H, I.tok _, ⟨_, by rw [e]⟩, q⟩
theorem mt_clear_dic : MtR X "dict.clear" (fun x xs H Q => ∃ a l, x = .ref a ∧ xs = [] ∧ H a = some (dicO X.w a l) ∧ Q .non (upd H a (dicO X.w a []))) := by
  intro pins s σ H x xs v us Q I rx rs h
  obtain ⟨a, l, rfl, rfl, e, q⟩ := h
  obtain rfl : v = Value.ref a := rx
  obtain rfl := Vals.zero rs
  obtain ⟨p1, p2, es, ep, m, rr⟩ := dic_rd I (.inl e)
  have z : es.size ≤ sizeLine := by have := pair_len rr; simp at this; omega
  exact call_meetsIn PySem.F.slot_dict_clear m.typeIs PySem.F.entry_dict_clear (PySem.F.args_dict_clear_1 _) (meets_dict_clear_raw a) ⟨es, ep, m, z, fun h' m' sb => ⟨.non, _, dic_write (t' := s.toks) I e sb ⟨p1, Nat.zero_le _, _, _, m', .nil⟩, rfl, q⟩⟩
theorem dic_new {w : World} (h : Heap) (hb : sysModules < h.objs.size) : dicP w h.objs.size [] (h.push { cls := .type "dict", data := .dict #[] }) :=
  ⟨by have : h.objs.size ≠ sysModules := Nat.ne_of_gt hb; simpa using this, Nat.zero_le _, #[], 0, ⟨_, Heap.get?_push_size _ rfl, ⟨rfl, rfl, rfl⟩, rfl⟩, .nil⟩
theorem pe_dnew {pos : Pos} : PE X (.Dict [] [] pos) (fun _ H Q => ∀ p, H p = none → Q (.ref p) (upd H p (dicO X.w p []))) := ⟨fun pins s σ H Q I h =>
  wpAny_Dict_empty ⟨.ref s.heap.objs.size, _, I.laid (a := s.heap.objs.size) (o := dicO X.w s.heap.objs.size []) (t' := s.toks) (fun _ _ q => Heap.get?_push_of_some _ q) (Nat.le_refl _) (dicO_ok (dic_new s.heap I.big)), rfl, h _ (I.hok.fresh (Nat.le_refl _))⟩⟩
end
end Pe
set_option maxHeartbeats 4000000
namespace Pe
open PySem PySem.Spec PyProof.Rows L2
/-! ### walks over a locked dict -/
section
variable {X : Cx} {pins : List (Addr × Obj)} {σ : L2.St} {H : Hp} {s : Shared} {d : Addr} {o : Obj} {l : List DE}
theorem dic_frz (I : Inv X pins σ H s) (h : H d = some (.frz o (dicO X.w d l))) : (d == sysModules) = false ∧ s.heap.get? d = some o ∧ l.length ≤ sizeLine ∧ ∃ es ep, o.data = .dict es ep ∧ s.heap.DictRaw d es ep ∧ es.size = l.length ∧ Paired (EntIs X.w) l es.toList := by
  obtain ⟨g, p, _⟩ : s.heap.get? d = some o ∧ ObjOk X.prog X.w H s.heap d (dicO X.w d l) := I.hok d _ h
  obtain ⟨p1, p2, es, ep, m, r⟩ := p
  obtain ⟨o', ho, hc, hd⟩ := id m
  rw [g] at ho; cases ho
  exact ⟨p1, g, p2, es, ep, hd, m, by rw [pair_len r]; simp, r⟩
theorem ent_at {w : World} {es : Array DictEntry} (r : Paired (EntIs w) l es.toList) {i : Nat} (hi : i < es.size) : ∃ p, l[i]? = some p ∧ L2.RelV p.2.1 es[i].key ∧ L2.RelV p.2.2 es[i].val := by
  obtain ⟨p, h1, _, h2, h3⟩ := pair_get r (j := i) (e := es[i]) (by simp [hi])
  exact ⟨p, h1, h2, h3⟩
end
/-- keys, values, pairs -/
def ItK (w : World) (d : Addr) (o : Obj) (l : List DE) : It :=
  ⟨fun i H => H d = some (.frz o (dicO w d l)) ∧ i < l.length, fun i H x H' => H' = H ∧ ∃ p, l[i]? = some p ∧ x = p.2.1, fun i H => H d = some (.frz o (dicO w d l)) ∧ l.length ≤ i⟩
def ItV (w : World) (d : Addr) (o : Obj) (l : List DE) : It :=
  ⟨fun i H => H d = some (.frz o (dicO w d l)) ∧ i < l.length, fun i H x H' => H' = H ∧ ∃ p, l[i]? = some p ∧ x = p.2.2, fun i H => H d = some (.frz o (dicO w d l)) ∧ l.length ≤ i⟩
def ItI (w : World) (d : Addr) (o : Obj) (l : List DE) : It :=
  ⟨fun i H => H d = some (.frz o (dicO w d l)) ∧ i < l.length, fun i H x H' => ∃ T p, l[i]? = some p ∧ x = .ref T ∧ H T = none ∧ H' = upd H T (.tup [p.2.1, p.2.2]), fun i H => H d = some (.frz o (dicO w d l)) ∧ l.length ≤ i⟩
section
variable {P : Program} {w : World} {K : PySem.W.Frag} {tg : Expr} {d : Addr} {o : Obj} {l : List DE} {es : Array DictEntry} {ep : Nat}
theorem turnK (it : Addr) (hod : o.data = .dict es ep) : Turn P w K tg (ItK w d o l) [it] it (fun i h => h.IsKeyIter it d i l.length ep) where
  mem := by simp
  obj := fun i h st b hb => by
    obtain rfl : b = it := by simpa using hb
    obtain ⟨oi, e, c, dd⟩ := st
    exact ⟨oi, e, fun v z => by rw [dd] at z; cases z⟩
  keep := fun i h h' st k => st.at fun oi e => k it (by simp) oi e
  item := by
    intro X hP hw hK hc i pins s σ H E I hf st hg
    subst hP hw hK
    obtain ⟨hd, hi⟩ := hg
    obtain ⟨f0, f1, f2, f3, f4, f5⟩ := hf it (by simp)
    obtain ⟨hs, hgd, z, es', ep', hdt, m, hsz, r⟩ := dic_frz I hd
    obtain ⟨rfl, rfl⟩ := dict_ep hod hdt
    have hi' : i < es'.size := by omega
    obtain ⟨p, hp, rk, _⟩ := ent_at r hi'
    refine next_key_item st hgd hdt hsz (Array.getElem?_eq_getElem hi') fun h' st' sb => ?_
    have I1 : Inv X pins σ H { s with heap := h' } := I.turned (t' := s.toks) (fun b ob hb e => (sb.2 b hb).trans e) f0 f1 f3 f4 f5
    obtain ⟨oi, e, c, dd⟩ := id st'
    exact ⟨_, rfl, go_of (s := { s with heap := h' }) e c dd (by decide) ⟨p.2.1, H, I1, rk, ⟨rfl, p, hp, rfl⟩, st', fun b hb => (hf b hb).1⟩⟩
  done := by
    intro X hP hw hK hc i pins s σ H E I hf st hg
    subst hP hw hK
    obtain ⟨hd, hi⟩ := hg
    obtain ⟨f0, f1, f2, f3, f4, f5⟩ := hf it (by simp)
    obtain ⟨hs, hgd, z, es', ep', hdt, m, hsz, r⟩ := dic_frz I hd
    obtain ⟨rfl, rfl⟩ := dict_ep hod hdt
    exact next_key_end (I.ok.hd hc) st hgd hdt hsz hi fun h' eb => ⟨rfl, I.turned (t' := s.toks) (fun b ob hb e => eb b ob hb e) f0 f1 f3 f4 f5⟩
  self := fun A i s Q E st h => by
    refine wpAny_pyIter_slot st.typeIs F.slot_dict_keyiterator_iter (wpAny_call_entry F.slot_dict_keyiterator_iter st.typeIs F.entry_dict_keyiterator_iter ?_ (F.args_dict_keyiterator_iter_1 _))
    show wpAny _ _ (ret (.ref it)) _ _ s
    exact wpAny_pure ⟨_, rfl, "dict_keyiterator", _, st.typeIs, F.slot_dict_keyiterator_next.lookup, h⟩
theorem turnV (it : Addr) (hod : o.data = .dict es ep) : Turn P w K tg (ItV w d o l) [it] it (fun i h => h.IsValIter it d i l.length ep) where
  mem := by simp
  obj := fun i h st b hb => by
    obtain rfl : b = it := by simpa using hb
    obtain ⟨oi, e, c, dd⟩ := st
    exact ⟨oi, e, fun v z => by rw [dd] at z; cases z⟩
  keep := fun i h h' st k => st.at fun oi e => k it (by simp) oi e
  item := by
    intro X hP hw hK hc i pins s σ H E I hf st hg
    subst hP hw hK
    obtain ⟨hd, hi⟩ := hg
    obtain ⟨f0, f1, f2, f3, f4, f5⟩ := hf it (by simp)
    obtain ⟨hs, hgd, z, es', ep', hdt, m, hsz, r⟩ := dic_frz I hd
    obtain ⟨rfl, rfl⟩ := dict_ep hod hdt
    have hi' : i < es'.size := by omega
    obtain ⟨p, hp, _, rv⟩ := ent_at r hi'
    rw [← hsz] at st
    refine wpAny_pyNext_values_item_raw st m hi' fun h' st' sb => ?_
    have I1 : Inv X pins σ H { s with heap := h' } := I.turned (t' := s.toks) (fun b ob hb e => (sb.2 b hb).trans e) f0 f1 f3 f4 f5
    obtain ⟨oi, e, c, dd⟩ := id st'
    exact ⟨_, rfl, go_of (s := { s with heap := h' }) e c dd (by decide) ⟨p.2.2, H, I1, rv, ⟨rfl, p, hp, rfl⟩, by rw [← hsz]; exact st', fun b hb => (hf b hb).1⟩⟩
  done := by
    intro X hP hw hK hc i pins s σ H E I hf st hg
    subst hP hw hK
    obtain ⟨hd, hi⟩ := hg
    obtain ⟨f0, f1, f2, f3, f4, f5⟩ := hf it (by simp)
    obtain ⟨hs, hgd, z, es', ep', hdt, m, hsz, r⟩ := dic_frz I hd
    obtain ⟨rfl, rfl⟩ := dict_ep hod hdt
    rw [← hsz] at st
    exact wpAny_pyNext_values_end_raw (I.ok.hd hc) st m (by omega) fun h' eb => ⟨rfl, I.turned (t' := s.toks) (fun b ob hb e => eb b ob hb e) f0 f1 f3 f4 f5⟩
  self := fun A i s Q E st h => wpAny_pyIter_valiter st h
theorem turnI {elts : List Expr} {kk : Nat} {tpos : Pos} (it : Addr) (hod : o.data = .dict es ep) : Turn P w K (.Tuple elts kk tpos) (ItI w d o l) [it] it (fun i h => ∃ ok ov, IsItemIter h it d i l.length ep ok ov) where
  mem := by simp
  obj := fun i h st b hb => by
    obtain rfl : b = it := by simpa using hb
    obtain ⟨ok, ov, e⟩ := st
    exact ⟨_, e, fun v z => nomatch z⟩
  keep := fun i h h' st k => let ⟨ok, ov, e⟩ := st; ⟨ok, ov, k it (by simp) _ e⟩
  item := by
    intro X hP hw hK hc i pins s σ H E I hf st hg
    subst hP hw hK
    obtain ⟨hd, hi⟩ := hg
    obtain ⟨hs, hgd, z, es', ep', hdt, m, hsz, r⟩ := dic_frz I hd
    obtain ⟨rfl, rfl⟩ := dict_ep hod hdt
    have hi' : i < es'.size := by omega
    obtain ⟨p, hp, rk, rv⟩ := ent_at r hi'
    obtain ⟨ok, ov, he⟩ := st
    rw [← hsz] at he
    have hlt : it < s.heap.objs.size := Heap.lt_size he
    refine wpAny_pyNext_items_item_raw he m hi' fun h' ho hT hz hk => ?_
    refine ⟨_, rfl, wpAny_letOwnedTupleGo_items (s := { s with heap := h' }) ho fun h'' he' sb => ?_⟩
    have hT2 : h''.get? s.heap.objs.size = some { cls := .type "tuple", data := .seq #[es'[i].key, es'[i].val] } := (sb.2 _ (Nat.ne_of_gt hlt)).trans hT
    have new : ObjOk X.prog X.w (upd H s.heap.objs.size (.tup [p.2.1, p.2.2])) h'' s.heap.objs.size (.tup [p.2.1, p.2.2]) :=
      ⟨by show 2 ≤ sizeLine; decide, [es'[i].key, es'[i].val], .cons rk (.cons rv .nil), ⟨_, hT2, rfl, _, rfl⟩⟩
    have I1 : Inv X pins σ (upd H s.heap.objs.size (.tup [p.2.1, p.2.2])) { s with heap := h'' } :=
      I.turnedNew (t' := s.toks) (ch := [it]) (fun b ob hb e => (sb.2 b (by simpa using hb)).trans (hk b ob (by simpa using hb) e)) hf (Nat.le_refl _) new
    refine ⟨.ref s.heap.objs.size, _, I1, rfl, ⟨_, p, hp, rfl, I.hok.fresh (Nat.le_refl _), rfl⟩, ⟨_, _, by rw [← hsz]; exact he'⟩, fun b hb => ?_⟩
    obtain rfl : b = it := by simpa using hb
    rw [upd_ne (Nat.ne_of_lt hlt)]
    exact (hf b (by simp)).1
  done := by
    intro X hP hw hK hc i pins s σ H E I hf st hg
    subst hP hw hK
    obtain ⟨hd, hi⟩ := hg
    obtain ⟨f0, f1, f2, f3, f4, f5⟩ := hf it (by simp)
    obtain ⟨hs, hgd, z, es', ep', hdt, m, hsz, r⟩ := dic_frz I hd
    obtain ⟨rfl, rfl⟩ := dict_ep hod hdt
    obtain ⟨ok, ov, he⟩ := st
    rw [← hsz] at he
    exact wpAny_pyNext_items_end_raw (I.ok.hd hc) he m (by omega) fun h' eb => ⟨rfl, I.turned (t' := s.toks) (fun b ob hb e => eb b ob hb e) f0 f1 f3 f4 f5⟩
  self := fun A i s Q E st h => let ⟨_, _, e⟩ := st; PySem.W.kcp_self e h
end
section
variable {X : Cx} {tg e : Expr} {td : TE} {apos cpos : Pos}
abbrev iDK (w : World) (td : TE) : TI := fun σ H R => td σ H fun x H1 => ∃ d o l, x = .ref d ∧ H1 d = some (.frz o (dicO w d l)) ∧ R (ItK w d o l) H1
abbrev iDV (w : World) (td : TE) : TI := fun σ H R => td σ H fun x H1 => ∃ d o l, x = .ref d ∧ H1 d = some (.frz o (dicO w d l)) ∧ R (ItV w d o l) H1
abbrev iDI (w : World) (td : TE) : TI := fun σ H R => td σ H fun x H1 => ∃ d o l, x = .ref d ∧ H1 d = some (.frz o (dicO w d l)) ∧ R (ItI w d o l) H1
theorem pi_dK (he : PE X e td) : PI X tg e (iDK X.w td) := by
  refine ⟨fun pins s σ H R I h => ?_⟩
  refine thn (he.run pins s σ H _ I h) fun u s1 ⟨x, H1, I1, rx, d, o, l, ex, hd, q⟩ => ?_
  subst ex
  obtain rfl : u = Value.ref d := rx
  obtain ⟨hs, hgd, z, es, ep, hdt, m, hsz, r⟩ := dic_frz I1 hd
  obtain ⟨o', ho, hx, hdt'⟩ := id m
  rw [hgd] at ho; cases ho
  refine iter_keys hs hgd hx hdt (pi_one (tk := s1.toks) I1 _ (turnK _ hdt) ⟨_, Heap.get?_push_size _ rfl, rfl, ?_⟩ q)
  rw [hsz] <;> rfl
theorem pi_dV (he : PE X e td) (hbase : attributeBase e "values" X.env (eval e X.env) = eval e X.env) (hline : (apos.endLine == cpos.line) = true) : PI X tg (.Call (.Attribute e "values" apos) [] [] cpos) (iDV X.w td) := by
  refine ⟨fun pins s σ H R I h => ?_⟩
  refine wpAny_Call_method (T := "dict") (id := "dict.values") hbase rfl hline F.plainAttrs_dict F.slot_dict_values F.type_dict_values (thn (he.run pins s σ H _ I h) fun u s1 ⟨x, H1, I1, rx, d, o, l, ex, hd, q⟩ => ?_)
  subst ex
  obtain rfl : u = Value.ref d := rx
  obtain ⟨hs, hgd, z, es, ep, hdt, m, hsz, r⟩ := dic_frz I1 hd
  refine ⟨m.typeIs, fun b e => by cases e; exact let ⟨o, ho, hc, _⟩ := m; ⟨o, ho, hc.2.1⟩, ?_⟩
  have I2 : Inv X pins σ H1 { s1 with heap := s1.heap.push { cls := .type "dict_values", data := .fields #[.ref d] } } := I1.kept (t' := s1.toks) fun b ob q => Heap.get?_push_of_some _ q
  have fin : wpAny (model X.prog X.w) X.A (pyIter (.ref s1.heap.objs.size)) (PIE X pins σ tg R) X.xe { s1 with heap := s1.heap.push { cls := .type "dict_values", data := .fields #[.ref d] } } := by
    refine wpAny_pyIter_values_raw (d := d) ⟨_, Heap.get?_push_size _ rfl, rfl, rfl⟩ (m.push _) (pi_one (tk := s1.toks) I2 _ (turnV _ hdt) ⟨_, Heap.get?_push_size _ rfl, rfl, ?_⟩ q)
    rw [hsz] <;> rfl
  show wpAny _ _ (callWith cpos (.builtin "dict.values") [.ref d] [] []) _ X.xe s1
  exact method_meetsIn F.slot_dict_values F.entry_dict_values rfl (PySem.evalArgs_none ⟨rfl, m.typeIs, F.args_dict_values_1 _, _, meets_dict_values_raw d hs, ⟨es, ep, m⟩, fin⟩)
theorem pi_dI {elts : List Expr} {kk : Nat} {tpos : Pos} (he : PE X e td) (hbase : attributeBase e "items" X.env (eval e X.env) = eval e X.env) (hline : (apos.endLine == cpos.line) = true) :
    PI X (.Tuple elts kk tpos) (.Call (.Attribute e "items" apos) [] [] cpos) (iDI X.w td) := by
  refine ⟨fun pins s σ H R I h => ?_⟩
  refine wpAny_Call_method (T := "dict") (id := "dict.items") hbase rfl hline F.plainAttrs_dict F.slot_dict_items F.type_dict_items (thn (he.run pins s σ H _ I h) fun u s1 ⟨x, H1, I1, rx, d, o, l, ex, hd, q⟩ => ?_)
  subst ex
  obtain rfl : u = Value.ref d := rx
  obtain ⟨hs, hgd, z, es, ep, hdt, m, hsz, r⟩ := dic_frz I1 hd
  refine ⟨m.typeIs, fun b e => by cases e; exact let ⟨o, ho, hc, _⟩ := m; ⟨o, ho, hc.2.1⟩, ?_⟩
  have I2 : Inv X pins σ H1 { s1 with heap := s1.heap.push { cls := .type "dict_items", data := .fields #[.ref d] } } := I1.kept (t' := s1.toks) fun b ob q => Heap.get?_push_of_some _ q
  have fin : wpAny (model X.prog X.w) X.A (pyIter (.ref s1.heap.objs.size)) (PIE X pins σ (.Tuple elts kk tpos) R) X.xe { s1 with heap := s1.heap.push { cls := .type "dict_items", data := .fields #[.ref d] } } := by
    refine wpAny_pyIter_items_raw (d := d) ⟨_, Heap.get?_push_size _ rfl, rfl, rfl⟩ (m.push _) (pi_one (tk := s1.toks) I2 _ (turnI _ hdt) ⟨.none, .none, ?_⟩ q)
    rw [← hsz]
    exact Heap.get?_push_size _ rfl
  show wpAny _ _ (callWith cpos (.builtin "dict.items") [.ref d] [] []) _ X.xe s1
  exact method_meetsIn F.slot_dict_items F.entry_dict_items rfl (PySem.evalArgs_none ⟨rfl, m.typeIs, F.args_dict_items_1 _, _, meets_dict_items_raw d hs, ⟨es, ep, m⟩, fin⟩)
end
end Pe
set_option maxHeartbeats 4000000
namespace Pe
open PySem PySem.Spec PyProof.Rows L2
/-! ## what terms stand for in the abstract heap -/
structure Gx where
  P : Program
  w : World
  K : PySem.W.Frag
  mg : Str → Option Value
  base : Heap
/-- the class that the module's name x holds -/
def clsAt (mg : Str → Option Value) (x : Str) : Addr := match mg x with
  | some (.ref a) => a
  | _ => 0
def Ext (S S' : Hp) : Prop := ∀ a o, S a = some o → S' a = some o
theorem Ext.refl (S : Hp) : Ext S S := fun _ _ h => h
theorem Ext.trans {A B C : Hp} (h : Ext A B) (k : Ext B C) : Ext A C := fun a o e => k a o (h a o e)
theorem ext_new {H : Hp} {p : Addr} {o : HO} (h : H p = none) : Ext H (upd H p o) := fun b u e => by
  rw [upd_ne (ne_of_none e h)]
  exact e
theorem ext_sq {K : PySem.W.Frag} {S S' : Hp} {a : Addr} {xs : List V} (e : Ext S S') (h : SqL K S a xs) : SqL K S' a xs := by
  rcases h with (h | ⟨o, h⟩) | h
  · exact .inl (.inl (e _ _ h))
  · exact .inl (.inr ⟨o, e _ _ h⟩)
  · exact .inr h
section
variable (G : Gx)
mutual
/-- v stands for the plain value, in the stable heap S -/
def Rp (S : Hp) : D → V → Prop
  | .non, v => v = .non
  | .bl b, v => v = .bl b
  | .int i, v => v = .int i
  | .str s, v => v = .str s
  | .tup xs, v => ∃ a ys, v = .ref a ∧ TupA G.K S a ys ∧ Rps S xs ys
  | .lst xs, v => ∃ a ys, v = .ref a ∧ SqL G.K S a ys ∧ Rps S xs ys
  | .dic kvs, v => ∃ a o, ∃ l : List DE, v = .ref a ∧ S a = some (.frz o (dicO G.w a l)) ∧ Rpk S kvs l ∧ (l.map (·.1)).Nodup
  | .ins c fs, v => ∃ a dx vs, v = .ref a ∧ S a = some (.ins (clsAt G.mg c) dx vs) ∧ Rpf S fs vs
  | .cls c, v => v = .ref (clsAt G.mg c)
def Rps (S : Hp) : List D → List V → Prop
  | [], vs => vs = []
  | x :: xs, vs => ∃ v r, vs = v :: r ∧ Rp S x v ∧ Rps S xs r
def Rpk (S : Hp) : List (D × D) → List DE → Prop
  | [], l => l = []
  | (kd, vd) :: r, l => ∃ k kv vv l', l = (k, kv, vv) :: l' ∧ kd.hk = some k ∧ Rp S kd kv ∧ Rp S vd vv ∧ Rpk S r l'
def Rpf (S : Hp) : List (Str × D) → List (Str × V) → Prop
  | [], vs => vs = []
  | (x, d) :: r, vs => ∃ v q, vs = (x, v) :: q ∧ Rp S d v ∧ Rpf S r q
end
end
section
variable {G : Gx}
mutual
theorem Rp.ext {S S' : Hp} (e : Ext S S') : ∀ (d : D) (v : V), Rp G S d v → Rp G S' d v
  | .non, _, h => h
  | .bl _, _, h => h
  | .int _, _, h => h
  | .str _, _, h => h
  | .tup xs, v, h => by
    obtain ⟨a, ys, h1, h2, h3⟩ : ∃ a ys, v = .ref a ∧ TupA G.K S a ys ∧ Rps G S xs ys := h
    exact ⟨a, ys, h1, h2.imp (e _ _) fun z => z, Rps.ext e xs ys h3⟩
  | .lst xs, v, h => by
    obtain ⟨a, ys, h1, h2, h3⟩ : ∃ a ys, v = .ref a ∧ SqL G.K S a ys ∧ Rps G S xs ys := h
    exact ⟨a, ys, h1, ext_sq e h2, Rps.ext e xs ys h3⟩
  | .dic kvs, v, h => by
    obtain ⟨a, o, l, h1, h2, h3, h4⟩ : ∃ a o, ∃ l : List DE, v = .ref a ∧ S a = some (.frz o (dicO G.w a l)) ∧ Rpk G S kvs l ∧ (l.map fun p : DE => p.1).Nodup := h
    exact ⟨a, o, l, h1, e _ _ h2, Rpk.ext e kvs l h3, h4⟩
  | .ins c fs, v, h => by
    obtain ⟨a, dx, vs, h1, h2, h3⟩ : ∃ a dx vs, v = .ref a ∧ S a = some (.ins (clsAt G.mg c) dx vs) ∧ Rpf G S fs vs := h
    exact ⟨a, dx, vs, h1, e _ _ h2, Rpf.ext e fs vs h3⟩
  | .cls _, _, h => h
theorem Rps.ext {S S' : Hp} (e : Ext S S') : ∀ (ds : List D) (vs : List V), Rps G S ds vs → Rps G S' ds vs
  | [], _, h => h
  | x :: xs, vs, h => by
    obtain ⟨v, r, h1, h2, h3⟩ : ∃ v r, vs = v :: r ∧ Rp G S x v ∧ Rps G S xs r := h
    exact ⟨v, r, h1, Rp.ext e x v h2, Rps.ext e xs r h3⟩
theorem Rpk.ext {S S' : Hp} (e : Ext S S') : ∀ (kvs : List (D × D)) (l : List DE), Rpk G S kvs l → Rpk G S' kvs l
  | [], _, h => h
  | (kd, vd) :: r, l, h => by
    obtain ⟨k, kv, vv, l', h1, h2, h3, h4, h5⟩ : ∃ k kv vv l', l = (k, kv, vv) :: l' ∧ kd.hk = some k ∧ Rp G S kd kv ∧ Rp G S vd vv ∧ Rpk G S r l' := h
    exact ⟨k, kv, vv, l', h1, h2, Rp.ext e kd kv h3, Rp.ext e vd vv h4, Rpk.ext e r l' h5⟩
theorem Rpf.ext {S S' : Hp} (e : Ext S S') : ∀ (fs : List (Str × D)) (vs : List (Str × V)), Rpf G S fs vs → Rpf G S' fs vs
  | [], _, h => h
  | (x, d) :: r, vs, h => by
    obtain ⟨v, q, h1, h2, h3⟩ : ∃ v q, vs = (x, v) :: q ∧ Rp G S d v ∧ Rpf G S r q := h
    exact ⟨v, q, h1, Rp.ext e d v h2, Rpf.ext e r q h3⟩
end
theorem Rps.len {S : Hp} : ∀ {ds : List D} {vs : List V}, Rps G S ds vs → vs.length = ds.length
  | [], vs, h => by rw [show vs = [] from h]; rfl
  | x :: xs, vs, h => by
    obtain ⟨v, r, h1, h2, h3⟩ : ∃ v r, vs = v :: r ∧ Rp G S x v ∧ Rps G S xs r := h
    rw [h1, List.length_cons, List.length_cons, Rps.len h3]
theorem Rps.app {S : Hp} : ∀ {ds es : List D} {vs ws : List V}, Rps G S ds vs → Rps G S es ws → Rps G S (ds ++ es) (vs ++ ws)
  | [], _, vs, _, h, k => by rw [show vs = [] from h]; exact k
  | x :: xs, _, vs, _, h, k => by
    obtain ⟨v, r, h1, h2, h3⟩ : ∃ v r, vs = v :: r ∧ Rp G S x v ∧ Rps G S xs r := h
    rw [h1]
    exact ⟨v, _, rfl, h2, Rps.app h3 k⟩
theorem Rps.snoc {S : Hp} {ds : List D} {vs : List V} {d : D} {v : V} (h : Rps G S ds vs) (k : Rp G S d v) : Rps G S (ds ++ [d]) (vs ++ [v]) := h.app ⟨v, [], rfl, k, rfl⟩
theorem Rps.get {S : Hp} : ∀ {ds : List D} {vs : List V}, Rps G S ds vs → ∀ {i : Nat} {d : D}, ds[i]? = some d → ∃ v, vs[i]? = some v ∧ Rp G S d v
  | [], _, _, i, d, e => by simp at e
  | x :: xs, vs, h, i, d, e => by
    obtain ⟨v, r, h1, h2, h3⟩ : ∃ v r, vs = v :: r ∧ Rp G S x v ∧ Rps G S xs r := h
    subst h1
    cases i with
    | zero => simp at e; subst e; exact ⟨v, rfl, h2⟩
    | succ i => simp at e; obtain ⟨w, a, b⟩ := Rps.get h3 e; exact ⟨w, by simpa using a, b⟩
theorem Rps.set {S : Hp} : ∀ {ds : List D} {vs : List V}, Rps G S ds vs → ∀ (i : Nat) {d : D} {v : V}, Rp G S d v → Rps G S (ds.set i d) (vs.set i v)
  | [], vs, h, i, d, v, k => by rw [show vs = [] from h]; exact rfl
  | x :: xs, vs, h, i, d, w, k => by
    obtain ⟨v, r, h1, h2, h3⟩ : ∃ v r, vs = v :: r ∧ Rp G S x v ∧ Rps G S xs r := h
    subst h1
    cases i with
    | zero => exact ⟨w, r, rfl, k, h3⟩
    | succ i => exact ⟨v, _, rfl, h2, Rps.set h3 i k⟩
theorem Rps.take {S : Hp} : ∀ {ds : List D} {vs : List V}, Rps G S ds vs → ∀ n, Rps G S (ds.take n) (vs.take n)
  | [], vs, h, n => by rw [show vs = [] from h]; simp [Rps]
  | x :: xs, vs, h, n => by
    obtain ⟨v, r, h1, h2, h3⟩ : ∃ v r, vs = v :: r ∧ Rp G S x v ∧ Rps G S xs r := h
    subst h1
    cases n with
    | zero => exact rfl
    | succ n => exact ⟨v, _, rfl, h2, Rps.take h3 n⟩
theorem Rps.drop {S : Hp} : ∀ {ds : List D} {vs : List V}, Rps G S ds vs → ∀ n, Rps G S (ds.drop n) (vs.drop n)
  | [], vs, h, n => by rw [show vs = [] from h]; simp [Rps]
  | x :: xs, vs, h, n => by
    obtain ⟨v, r, h1, h2, h3⟩ : ∃ v r, vs = v :: r ∧ Rp G S x v ∧ Rps G S xs r := h
    subst h1
    cases n with
    | zero => exact ⟨v, r, rfl, h2, h3⟩
    | succ n => exact Rps.drop h3 n
/-! ### keys -/
mutual
theorem Rp.key {S : Hp} : ∀ (d : D) (v : V) (k : NestedKey), Rp G S d v → d.key = some k → KIs G.K S k v
  | .non, v, k, h, e => by cases e; exact h
  | .bl b, v, k, h, e => by cases e; exact .inr ⟨b, h, rfl⟩
  | .int i, v, k, h, e => by cases e; exact .inl h
  | .str s, v, k, h, e => by cases e; exact h
  | .tup xs, v, k, h, e => by
    obtain ⟨a, ys, h1, h2, h3⟩ : ∃ a ys, v = .ref a ∧ TupA G.K S a ys ∧ Rps G S xs ys := h
    unfold D.key at e
    obtain ⟨ks, e1, rfl⟩ := Option.map_eq_some_iff.mp e
    exact ⟨a, ys, h1, h2, Rps.keys xs ys ks h3 e1⟩
  | .lst _, _, _, _, e => by cases e
  | .dic _, _, _, _, e => by cases e
  | .ins _ _, _, _, _, e => by cases e
  | .cls _, _, _, _, e => by cases e
theorem Rps.keys {S : Hp} : ∀ (ds : List D) (vs : List V) (ks : List NestedKey), Rps G S ds vs → D.keys ds = some ks → KIsA G.K S ks vs
  | [], vs, ks, h, e => by cases e; exact h
  | x :: xs, vs, ks, h, e => by
    obtain ⟨v, r, h1, h2, h3⟩ : ∃ v r, vs = v :: r ∧ Rp G S x v ∧ Rps G S xs r := h
    unfold D.keys at e
    cases q1 : D.key x with
    | none => simp [q1] at e
    | some k =>
      cases q2 : D.keys xs with
      | none => simp [q1, q2] at e
      | some kk =>
        simp [q1, q2] at e
        subst e
        exact ⟨v, r, h1, Rp.key x v k h2 q1, Rps.keys xs r kk h3 q2⟩
end
theorem hk_key {d : D} {k : NestedKey} (h : d.hk = some k) : d.key = some k ∧ k.depth ≤ 8 := by
  unfold D.hk at h
  split at h
  · split at h
    · cases h; exact ⟨by assumption, by assumption⟩
    · cases h
  · cases h
theorem Rpk.wf {S : Hp} : ∀ {kvs : List (D × D)} {l : List DE}, Rpk G S kvs l → ∀ p ∈ l, KIs G.K S p.1 p.2.1 ∧ p.1.depth ≤ 8
  | [], l, h, p, hp => by rw [show l = [] from h] at hp; cases hp
  | (kd, vd) :: r, l, h, p, hp => by
    obtain ⟨k, kv, vv, l', h1, h2, h3, h4, h5⟩ : ∃ k kv vv l', l = (k, kv, vv) :: l' ∧ kd.hk = some k ∧ Rp G S kd kv ∧ Rp G S vd vv ∧ Rpk G S r l' := h
    subst h1
    rcases List.mem_cons.mp hp with e | e
    · subst e; exact ⟨Rp.key _ _ _ h3 (hk_key h2).1, (hk_key h2).2⟩
    · exact Rpk.wf h5 p e
theorem Rpk.dicw {S : Hp} {kvs : List (D × D)} {l : List DE} (h : Rpk G S kvs l) (nd : (l.map (·.1)).Nodup)   : DicW G.K S l := ⟨nd, h.wf⟩
theorem Rpk.len {S : Hp} : ∀ {kvs : List (D × D)} {l : List DE}, Rpk G S kvs l → l.length = kvs.length
  | [], l, h => by rw [show l = [] from h]; rfl
  | (kd, vd) :: r, l, h => by
    obtain ⟨k, kv, vv, l', h1, h2, h3, h4, h5⟩ : ∃ k kv vv l', l = (k, kv, vv) :: l' ∧ kd.hk = some k ∧ Rp G S kd kv ∧ Rp G S vd vv ∧ Rpk G S r l' := h
    subst h1; simp [Rpk.len h5]
theorem lget_cons (p : DE) (l : List DE) (k : NestedKey) : lget (p :: l) k = if p.1 = k then some p.2.2 else lget l k := by
  unfold lget
  by_cases h : p.1 = k
  · simp [h]
  · simp [h]
theorem Rpk.get {S : Hp} : ∀ {kvs : List (D × D)} {l : List DE}, Rpk G S kvs l → ∀ k, (∀ x, dget kvs k = some x → ∃ v, lget l k = some v ∧ Rp G S x v) ∧ (dget kvs k = none → lget l k = none)
  | [], l, h, k => by rw [show l = [] from h]; exact ⟨fun x e => by (unfold dget at e; cases e), fun _ => rfl⟩
  | (kd, vd) :: r, l, h, k => by
    obtain ⟨k', kv, vv, l', h1, h2, h3, h4, h5⟩ : ∃ k kv vv l', l = (k, kv, vv) :: l' ∧ kd.hk = some k ∧ Rp G S kd kv ∧ Rp G S vd vv ∧ Rpk G S r l' := h
    subst h1
    have ih := Rpk.get h5 k
    rw [lget_cons]
    unfold dget
    rw [(hk_key h2).1]
    by_cases e : k' = k
    · subst e
      simp only [if_true]
      exact ⟨fun x q => by cases q; exact ⟨vv, rfl, h4⟩, fun q => by cases q⟩
    · have : ¬ some k' = some k := fun z => e (Option.some.inj z)
      rw [if_neg this, if_neg e]
      exact ih
theorem map_neg {l : List DE} {k : NestedKey} {v : V} (n : k ∉ l.map (·.1)) : l.map (fun p => if p.1 = k then (p.1, p.2.1, v) else p) = l := by
  conv => rhs; rw [← List.map_id l]
  refine List.map_congr_left fun q hq => if_neg fun z => n ?_
  rw [← z]; exact List.mem_map.mpr ⟨q, hq, rfl⟩
theorem lput_cons {p : DE} {l : List DE} {k : NestedKey} {kv v : V} (nd : ((p :: l).map (·.1)).Nodup) : lput (p :: l) k kv v = if p.1 = k then (p.1, p.2.1, v) :: l else p :: lput l k kv v := by
  rw [List.map_cons, List.nodup_cons] at nd
  unfold lput
  by_cases h : p.1 = k
  · have n : k ∉ l.map (·.1) := h ▸ nd.1
    rw [if_pos h, if_pos (by rw [List.map_cons, h]; exact List.mem_cons_self), List.map_cons, if_pos h, map_neg n]
  · rw [if_neg h]
    by_cases m : k ∈ l.map (·.1)
    · rw [if_pos (by rw [List.map_cons]; exact List.mem_cons_of_mem _ m), if_pos m, List.map_cons, if_neg h]
    · rw [if_neg (by rw [List.map_cons, List.mem_cons]; exact fun z => z.elim (fun z => h z.symm) m), if_neg m]; rfl
theorem Rpk.put {S : Hp} {kd vd : D} {kv vv : V} {k : NestedKey} (hk : kd.hk = some k) (r1 : Rp G S kd kv) (r2 : Rp G S vd vv) : ∀ {kvs : List (D × D)} {l : List DE}, Rpk G S kvs l → (l.map (·.1)).Nodup → Rpk G S (dput kvs kd k vd) (lput l k kv vv)
  | [], l, h, _ => by rw [show l = [] from h]; exact ⟨k, kv, vv, [], rfl, hk, r1, r2, rfl⟩
  | (kd', vd') :: r, l, h, nd => by
    obtain ⟨k', kv', vv', l', h1, h2, h3, h4, h5⟩ : ∃ k kv vv l', l = (k, kv, vv) :: l' ∧ kd'.hk = some k ∧ Rp G S kd' kv ∧ Rp G S vd' vv ∧ Rpk G S r l' := h
    subst h1
    rw [lput_cons nd]
    unfold dput
    rw [(hk_key h2).1]
    rw [List.map_cons, List.nodup_cons] at nd
    by_cases e : k' = k
    · subst e
      simp only [if_true]
      exact ⟨k', kv', vv, l', rfl, h2, h3, r2, h5⟩
    · have : ¬ some k' = some k := fun z => e (Option.some.inj z)
      rw [if_neg this, if_neg e]
      exact ⟨k', kv', vv', _, rfl, h2, h3, h4, Rpk.put hk r1 r2 h5 nd.2⟩
theorem Rpk.at {S : Hp} : ∀ {kvs : List (D × D)} {l : List DE}, Rpk G S kvs l → ∀ {i : Nat} {p : DE}, l[i]? = some p → ∃ q, kvs[i]? = some q ∧ Rp G S q.1 p.2.1 ∧ Rp G S q.2 p.2.2
  | [], l, h, i, p, e => by rw [show l = [] from h] at e; simp at e
  | (kd, vd) :: r, l, h, i, p, e => by
    obtain ⟨k, kv, vv, l', h1, h2, h3, h4, h5⟩ : ∃ k kv vv l', l = (k, kv, vv) :: l' ∧ kd.hk = some k ∧ Rp G S kd kv ∧ Rp G S vd vv ∧ Rpk G S r l' := h
    subst h1
    cases i with
    | zero => simp at e; subst e; exact ⟨_, rfl, h3, h4⟩
    | succ i => obtain ⟨q, a, b⟩ := Rpk.at h5 (i := i) (by simpa using e); exact ⟨q, by simpa using a, b⟩
theorem Rpf.look {S : Hp} : ∀ {fs : List (Str × D)} {vs : List (Str × V)}, Rpf G S fs vs → ∀ f, (∀ x, alook fs f = some x → ∃ v, vs.lookup f = some v ∧ Rp G S x v) ∧ (alook fs f = none → vs.lookup f = none)
  | [], vs, h, f => by rw [show vs = [] from h]; exact ⟨fun x e => by (unfold alook at e; cases e), fun _ => rfl⟩
  | (y, d) :: r, vs, h, f => by
    obtain ⟨v, q, h1, h2, h3⟩ : ∃ v q, vs = (y, v) :: q ∧ Rp G S d v ∧ Rpf G S r q := h
    subst h1
    have ih := Rpf.look h3 f
    unfold alook
    by_cases e : y = f
    · subst e
      simp only [if_true, List.lookup_cons, beq_self_eq_true]
      exact ⟨fun x q => by cases q; exact ⟨v, rfl, h2⟩, fun q => by cases q⟩
    · have : (f == y) = false := by simpa using fun z : f = y => e z.symm
      rw [if_neg e, List.lookup_cons, this]
      exact ih
end
end Pe
set_option maxHeartbeats 4000000
namespace Pe
open PySem PySem.Spec PyProof.Rows L2
section
variable (G : Gx)
def WIs (S : Hp) (L : List Addr) : W → V → Prop
  | .d x, v => Rp G S x v
  | .r n, v => ∃ a, L[n]? = some a ∧ v = .ref a
def Rpw (S : Hp) (L : List Addr) : List (Str × W) → List (Str × V) → Prop
  | [], vs => vs = []
  | (x, w) :: r, vs => ∃ v q, vs = (x, v) :: q ∧ WIs G S L w v ∧ Rpw S L r q
def RrL (L : List Addr) : List Nat → List V → Prop
  | [], vs => vs = []
  | n :: r, vs => ∃ a q, vs = .ref a :: q ∧ L[n]? = some a ∧ RrL L r q
def Rrk (S : Hp) (L : List Addr) : List (D × Nat) → List DE → Prop
  | [], l => l = []
  | (kd, n) :: r, l => ∃ k kv a l', l = (k, kv, .ref a) :: l' ∧ kd.hk = some k ∧ Rp G S kd kv ∧ L[n]? = some a ∧ Rrk S L r l'
def ObIs (S : Hp) (L : List Addr) (a : Addr) : Ob → HO → Prop
  | .lst xs, o => ∃ ys, o = .lst ys ∧ Rps G S xs ys
  | .dic kvs, o => ∃ l : List DE, o = dicO G.w a l ∧ Rpk G S kvs l ∧ (l.map fun p : DE => p.1).Nodup
  | .lstR ns, o => ∃ ys, o = .lst ys ∧ RrL L ns ys
  | .dicR kvs, o => ∃ l : List DE, o = dicO G.w a l ∧ Rrk G S L kvs l ∧ (l.map fun p : DE => p.1).Nodup
  | .ins c fs, o => ∃ dx vs, o = .ins (clsAt G.mg c) dx vs ∧ Rpw G S L fs vs
  | .gone _, _ => False
def CellIs (S : Hp) (L : List Addr) (H : Hp) (a : Addr) (c : Cell) : Prop := (∃ o, ObIs G S L a c.ob o ∧ if c.lk = true then ∃ ob, H a = some (.frz ob o) else H a = some o) ∨ ∃ x, c.ob = .gone x ∧ Rp G S x (.ref a) ∧ ∃ o, S a = some o
structure Ok (S : Hp) (L : List Addr) (h : Cells) (H : Hp) : Prop where
  sub : Ext S H
  len : L.length = h.length
  nd : L.Nodup
  out : ∀ (n : Nat) a c, L[n]? = some a → h[n]? = some c → c.ob.liv = true → S a = none
  lim : ∀ (n : Nat) c, h[n]? = some c → c.ob.lim n = true
  cell : ∀ (n : Nat) a c, L[n]? = some a → h[n]? = some c → CellIs G S L H a c
end
/-- from one moment to a later one -/
structure Step (L : List Addr) (S H : Hp) (L' : List Addr) (S' H' : Hp) : Prop where
  l : ∃ M, L' = L ++ M ∧ ∀ a ∈ M, H a = none
  s : Ext S S'
  k : ∀ a o, a ∉ L → H a = some o → H' a = some o
  f : ∀ a o, S a = none → S' a = some o → H a = none ∨ (∃ xs, o = .tup xs) ∨ a ∈ L
  z : ∀ a ob o, H a = some (.frz ob o) → H' a = some (.frz ob o)
  t : ∀ a, H a ≠ none → H' a ≠ none
section
variable {G : Gx} {S H S' H' S2 H2 : Hp} {L L' L2 : List Addr} {h h' : Cells}
theorem Step.refl : Step L S H L S H := ⟨⟨[], by simp, fun _ h => (by cases h)⟩, Ext.refl S, fun _ _ _ h => h, fun a o h k => (by rw [h] at k; cases k), fun _ _ _ h => h, fun _ h => h⟩
theorem Step.non (a : Step L S H L' S' H') {p : Addr} (h : H' p = none) : H p = none := by
  cases e : H p with
  | none => rfl
  | some o => exact absurd h (a.t p (by rw [e]; simp))
theorem Step.sub (a : Step L S H L' S' H') {p : Addr} (h : p ∈ L) : p ∈ L' := by
  obtain ⟨M, e, _⟩ := a.l
  rw [e]; exact List.mem_append_left _ h
theorem Step.ix (a : Step L S H L' S' H') {n : Nat} {p : Addr} (h : L[n]? = some p) : L'[n]? = some p := by
  obtain ⟨M, e, _⟩ := a.l
  have := (List.getElem?_eq_some_iff.mp h).1
  rw [e, List.getElem?_append_left this]; exact h
theorem Step.trans (a : Step L S H L' S' H') (b : Step L' S' H' L2 S2 H2) : Step L S H L2 S2 H2 := by
  obtain ⟨M, e, n⟩ := a.l
  obtain ⟨M', e', n'⟩ := b.l
  refine ⟨⟨M ++ M', by rw [e', e, List.append_assoc], fun p hp => ?_⟩, a.s.trans b.s, fun p o hp q => ?_, fun p o h1 h2 => ?_, fun p ob o q => b.z p ob o (a.z p ob o q), fun p q => b.t p (a.t p q)⟩
  · rcases List.mem_append.mp hp with q | q
    · exact n p q
    · exact a.non (n' p q)
  · refine b.k p o (fun z => ?_) (a.k p o hp q)
    rw [e] at z
    rcases List.mem_append.mp z with z | z
    · exact hp z
    · rw [n p z] at q; cases q
  · cases e1 : S' p with
    | some u =>
      have z := b.s p u e1
      rw [h2] at z; cases z
      exact a.f p o h1 e1
    | none =>
      rcases b.f p o e1 h2 with z | z | z
      · exact .inl (a.non z)
      · exact .inr (.inl z)
      · rw [e] at z
        rcases List.mem_append.mp z with z | z
        · exact .inr (.inr z)
        · exact .inl (n p z)
/-- what is known and stands apart stays apart -/
theorem Step.out (a : Step L S H L' S' H') (sub : Ext S' H') {p : Addr} {o : HO} (hp : p ∉ L) (h : S p = none) (k : H p = some o) (m : ∀ xs, o ≠ .tup xs) : S' p = none ∧ p ∉ L' ∧ H' p = some o := by
  have h' := a.k p o hp k
  refine ⟨?_, fun z => ?_, h'⟩
  · cases e : S' p with
    | none => rfl
    | some u =>
      have q := sub p u e
      rw [h'] at q; cases q
      rcases a.f p o h e with z | ⟨xs, z⟩ | z
      · rw [k] at z; cases z
      · exact absurd z (m xs)
      · exact absurd z hp
  · obtain ⟨M, e, n⟩ := a.l
    rw [e] at z
    rcases List.mem_append.mp z with z | z
    · exact hp z
    · rw [n p z] at k; cases k
/-- a grown list of cells -/
def Pre (L L' : List Addr) : Prop := ∀ (n : Nat) a, L[n]? = some a → L'[n]? = some a
theorem Step.pre (a : Step L S H L' S' H') : Pre L L' := fun _ _ h => a.ix h
theorem WIs.mono (e : Ext S S') (p : Pre L L') {w : W} {v : V} (h : WIs G S L w v) : WIs G S' L' w v := by
  cases w with
  | d x => exact Rp.ext e x v h
  | r n => obtain ⟨a, h1, h2⟩ := h; exact ⟨a, p n a h1, h2⟩
theorem Rpw.mono (e : Ext S S') (p : Pre L L') : ∀ {fs : List (Str × W)} {vs : List (Str × V)}, Rpw G S L fs vs → Rpw G S' L' fs vs
  | [], _, h => h
  | (x, w) :: r, vs, h => by
    obtain ⟨v, q, h1, h2, h3⟩ : ∃ v q, vs = (x, v) :: q ∧ WIs G S L w v ∧ Rpw G S L r q := h
    exact ⟨v, q, h1, h2.mono e p, Rpw.mono e p h3⟩
theorem RrL.mono (p : Pre L L') : ∀ {ns : List Nat} {vs : List V}, RrL L ns vs → RrL L' ns vs
  | [], _, h => h
  | n :: r, vs, h => by
    obtain ⟨a, q, h1, h2, h3⟩ : ∃ a q, vs = .ref a :: q ∧ L[n]? = some a ∧ RrL L r q := h
    exact ⟨a, q, h1, p n a h2, RrL.mono p h3⟩
theorem Rrk.mono (e : Ext S S') (p : Pre L L') : ∀ {kvs : List (D × Nat)} {l : List DE}, Rrk G S L kvs l → Rrk G S' L' kvs l
  | [], _, h => h
  | (kd, n) :: r, l, h => by
    obtain ⟨k, kv, a, l', h1, h2, h3, h4, h5⟩ : ∃ k kv a l', l = (k, kv, .ref a) :: l' ∧ kd.hk = some k ∧ Rp G S kd kv ∧ L[n]? = some a ∧ Rrk G S L r l' := h
    exact ⟨k, kv, a, l', h1, h2, Rp.ext e kd kv h3, p n a h4, Rrk.mono e p h5⟩
theorem ObIs.mono (e : Ext S S') (p : Pre L L') {a : Addr} {ob : Ob} {o : HO} (h : ObIs G S L a ob o) : ObIs G S' L' a ob o := by
  cases ob with
  | lst xs => obtain ⟨ys, h1, h2⟩ := h; exact ⟨ys, h1, Rps.ext e _ _ h2⟩
  | dic kvs => obtain ⟨l, h1, h2, h3⟩ := h; exact ⟨l, h1, Rpk.ext e _ _ h2, h3⟩
  | lstR ns => obtain ⟨ys, h1, h2⟩ := h; exact ⟨ys, h1, h2.mono p⟩
  | dicR kvs => obtain ⟨l, h1, h2, h3⟩ := h; exact ⟨l, h1, h2.mono e p, h3⟩
  | ins c fs => obtain ⟨dx, vs, h1, h2⟩ := h; exact ⟨dx, vs, h1, h2.mono e p⟩
  | gone x => exact h
/-- what an object is, is no tuple, no lock -/
theorem ObIs.kind {a : Addr} {ob : Ob} {o : HO} (h : ObIs G S L a ob o) : (∀ xs, o ≠ .tup xs) ∧ Mut (some o) := by
  cases ob with
  | lst xs => obtain ⟨ys, h1, h2⟩ := h; subst h1; exact ⟨fun _ z => (nomatch z), trivial⟩
  | dic kvs => obtain ⟨l, h1, h2, h3⟩ := h; subst h1; exact ⟨fun _ z => (nomatch z), trivial⟩
  | lstR ns => obtain ⟨ys, h1, h2⟩ := h; subst h1; exact ⟨fun _ z => (nomatch z), trivial⟩
  | dicR kvs => obtain ⟨l, h1, h2, h3⟩ := h; subst h1; exact ⟨fun _ z => (nomatch z), trivial⟩
  | ins c fs => obtain ⟨dx, vs, h1, h2⟩ := h; subst h1; exact ⟨fun _ z => (nomatch z), trivial⟩
  | gone x => exact False.elim h
theorem ObIs.liv {a : Addr} {ob : Ob} {o : HO} (h : ObIs G S L a ob o) : ob.liv = true := by
  cases ob with
  | gone x => exact False.elim h
  | _ => rfl
theorem Ok.at (k : Ok G S L h H) {n : Nat} {a : Addr} (e : L[n]? = some a) : ∃ c, h[n]? = some c ∧ CellIs G S L H a c := by
  have hl : n < h.length := by rw [← k.len]; exact (List.getElem?_eq_some_iff.mp e).1
  exact ⟨h[n], List.getElem?_eq_getElem hl, k.cell n a _ e (List.getElem?_eq_getElem hl)⟩
theorem CellIs.there (sub : Ext S H) {a : Addr} {c : Cell} (k : CellIs G S L H a c) : ∃ o, H a = some o := by
  rcases k with ⟨o, _, q⟩ | ⟨x, _, _, o, q⟩
  · split at q
    · obtain ⟨ob, q⟩ := q; exact ⟨_, q⟩
    · exact ⟨_, q⟩
  · exact ⟨o, sub _ _ q⟩
/-- a cell at another heap that has its object still -/
theorem CellIs.to {a : Addr} {c : Cell} (k : CellIs G S L H a c) (e : Ext S S') (p : Pre L L') (hh : ∀ o, H a = some o → H' a = some o) : CellIs G S' L' H' a c := by
  rcases k with ⟨o, h1, q⟩ | ⟨x, h1, h2, o, q⟩
  · refine .inl ⟨o, h1.mono e p, ?_⟩
    split at q
    · obtain ⟨ob, q⟩ := q; rw [if_pos (by assumption)]; exact ⟨ob, hh _ q⟩
    · rw [if_neg (by assumption)]; exact hh _ q
  · exact .inr ⟨x, h1, Rp.ext e _ _ h2, o, e _ _ q⟩
/-- a cell not gone -/
theorem CellIs.ob {a : Addr} {c : Cell} (k : CellIs G S L H a c) (l : c.ob.liv = true) : ∃ o, ObIs G S L a c.ob o ∧ if c.lk = true then ∃ ob, H a = some (.frz ob o) else H a = some o := by
  rcases k with k | ⟨x, h1, _⟩
  · exact k
  · rw [h1] at l; cases l
/-- a new object is laid, apart from all -/
theorem Ok.apart (k : Ok G S L h H) {p : Addr} {o : HO} (hp : H p = none) : Ok G S L h (upd H p o) := by
  refine ⟨fun b u e => ext_new hp b u (k.sub b u e), k.len, k.nd, k.out, k.lim, fun n a c e1 e2 => ?_⟩
  exact (k.cell n a c e1 e2).to (Ext.refl S) (fun _ _ z => z) fun o q => ext_new hp a o q
theorem Step.apart {p : Addr} {o : HO} (hp : H p = none) : Step L S H L S (upd H p o) := by
  refine ⟨⟨[], by simp, fun _ h => (by cases h)⟩, Ext.refl S, fun a u _ h => ext_new hp a u h, fun a o h k => (by rw [h] at k; cases k), fun a ob u h => ext_new hp a _ h, fun a q => ?_⟩
  cases e : H a with
  | none => exact absurd e q
  | some u => rw [ext_new hp a u e]; simp
theorem Ok.mem (k : Ok G S L h H) {a : Addr} (e : a ∈ L) : ∃ (n : Nat) (c : Cell), L[n]? = some a ∧ h[n]? = some c ∧ CellIs G S L H a c := by
  obtain ⟨n, hn⟩ := List.mem_iff_getElem?.mp e
  obtain ⟨c, hc, q⟩ := k.at hn
  exact ⟨n, c, hn, hc, q⟩
/-- what stands apart goes over into the stable -/
theorem Ok.settle (k : Ok G S L h H) {p : Addr} {o : HO} (hp : H p = some o) (hs : S p = none) (hl : p ∉ L) : Ok G (upd S p o) L h H := by
  refine ⟨fun b u e => ?_, k.len, k.nd, fun n a c e1 e2 e3 => ?_, k.lim, fun n a c e1 e2 => ?_⟩
  · by_cases q : b = p
    · subst q; rw [upd_same] at e; cases e; exact hp
    · rw [upd_ne q] at e; exact k.sub b u e
  · rw [upd_ne (fun z => hl (by rw [← z]; exact List.mem_of_getElem? e1))]; exact k.out n a c e1 e2 e3
  · exact (k.cell n a c e1 e2).to (ext_new hs) (fun _ _ q => q) fun _ q => q
theorem Step.settle (a : Step L S H L' S' H') {p : Addr} {o : HO} (h0 : H p = none) (hs : S' p = none) : Step L S H L' (upd S' p o) H' := by
  refine ⟨a.l, a.s.trans (ext_new hs), a.k, fun x u hx hx2 => ?_, a.z, a.t⟩
  by_cases e : x = p
  · subst e; exact .inl h0
  · rw [upd_ne e] at hx2; exact a.f x u hx hx2
/-- what is free, stands nowhere -/
theorem Ok.free (k : Ok G S L h H) {p : Addr} (hp : H p = none) : S p = none ∧ p ∉ L := by
  refine ⟨?_, fun z => ?_⟩
  · cases e : S p with
    | none => rfl
    | some o => rw [k.sub p o e] at hp; cases hp
  · obtain ⟨n, c, _, _, q⟩ := k.mem z
    obtain ⟨o, q⟩ := q.there k.sub
    rw [hp] at q; cases q
/-- a tuple just laid is stable -/
theorem tuple_new (k : Ok G S L h H) {p : Addr} {xs : List V} (hp : H p = none) : Ok G (upd S p (.tup xs)) L h (upd H p (.tup xs)) ∧ Step L S H L (upd S p (.tup xs)) (upd H p (.tup xs)) :=
  ⟨(k.apart hp).settle upd_same (k.free hp).1 (k.free hp).2, (Step.apart hp).settle hp (k.free hp).1⟩
/-- what stands apart is locked for good -/
theorem Step.lock (a : Step L S H L' S' H') {p : Addr} {o : HO} {ob : Obj} (h0 : H p = none) : Step L S H L' S' (upd H' p (.frz ob o)) := by
  refine ⟨a.l, a.s, fun x u hx q => ?_, a.f, fun x b u q => ?_, fun x q => ?_⟩
  · rw [upd_ne (ne_of_none q h0)]; exact a.k x u hx q
  · rw [upd_ne (ne_of_none q h0)]; exact a.z x b u q
  · by_cases e : x = p
    · subst e; rw [upd_same]; simp
    · rw [upd_ne e]; exact a.t x q
theorem Ok.lock (k : Ok G S L h H) {p : Addr} {o : HO} {ob : Obj} (hs : S p = none) (hl : p ∉ L) : Ok G S L h (upd H p (.frz ob o)) := by
  refine ⟨fun b u e => ?_, k.len, k.nd, k.out, k.lim, fun n a c e1 e2 => ?_⟩
  · rw [upd_ne (ne_of_none e hs)]; exact k.sub b u e
  · refine (k.cell n a c e1 e2).to (Ext.refl S) (fun _ _ z => z) fun u q => ?_
    rw [upd_ne (fun z => hl (by rw [← z]; exact List.mem_of_getElem? e1))]; exact q
/-- one cell's object anew, all else as it was -/
theorem Ok.put (k : Ok G S L h H) {n : Nat} {a : Addr} {c c' : Cell} {o : HO} (hn : L[n]? = some a) (hc : h[n]? = some c) (hl : c.ob.liv = true) (ob : ObIs G S L a c'.ob o) (lm : c'.ob.lim n = true) (un : c'.lk = false) : Ok G S L (h.set n c') (upd H a o) := by
  have hs := k.out n a c hn hc hl
  have nl : n < h.length := (List.getElem?_eq_some_iff.mp hc).1
  refine ⟨fun b u e => ?_, by rw [List.length_set]; exact k.len, k.nd, fun m b d e1 e2 e3 => ?_, fun m d e => ?_, fun m b d e1 e2 => ?_⟩
  · rw [upd_ne (ne_of_none e hs)]; exact k.sub b u e
  · by_cases q : n = m
    · subst q; rw [hn] at e1; cases e1; exact hs
    · rw [List.getElem?_set_ne q] at e2; exact k.out m b d e1 e2 e3
  · by_cases q : n = m
    · subst q; rw [List.getElem?_set_self nl] at e; cases e; exact lm
    · rw [List.getElem?_set_ne q] at e; exact k.lim m d e
  · by_cases q : n = m
    · subst q
      rw [hn] at e1; cases e1
      rw [List.getElem?_set_self nl] at e2; cases e2
      exact .inl ⟨o, ob, by rw [un]; exact upd_same⟩
    · rw [List.getElem?_set_ne q] at e2
      refine (k.cell m b d e1 e2).to (Ext.refl S) (fun _ _ z => z) fun u z => ?_
      rw [upd_ne (fun z => q ?_)]
      · exact z
      · subst z
        exact (List.getElem?_inj (List.getElem?_eq_some_iff.mp hn).1 k.nd).mp (hn.trans e1.symm)
theorem Step.put {n : Nat} {a : Addr} {o u : HO} (hn : L[n]? = some a) (hu : H a = some u) (mu : Mut (some u)) : Step L S H L S (upd H a o) := by
  have hm : a ∈ L := List.mem_of_getElem? hn
  refine ⟨⟨[], by simp, fun _ h => (by cases h)⟩, Ext.refl S, fun b x hb q => ?_, fun b x h1 h2 => (by rw [h1] at h2; cases h2), fun b ob x q => ?_, fun b q => ?_⟩
  · rw [upd_ne (fun z => hb (by rw [z]; exact hm))]; exact q
  · rw [upd_ne (fun z => ?_)]
    · exact q
    · rw [z, hu] at q; cases q; exact False.elim mu
  · by_cases e : b = a
    · subst e; rw [upd_same]; simp
    · rw [upd_ne e]; exact q
/-- a new cell -/
theorem Ok.push (k : Ok G S L h H) {a : Addr} {ob : Ob} {o : HO} (ha : H a = some o) (hs : S a = none) (hl : a ∉ L) (b : ObIs G S L a ob o) (lm : ob.lim h.length = true) : Ok G S (L ++ [a]) (h ++ [⟨ob, false⟩]) H := by
  have pre : Pre L (L ++ [a]) := fun m b e => by rw [List.getElem?_append_left (List.getElem?_eq_some_iff.mp e).1]; exact e
  have cs : ∀ (m : Nat) (b : Addr) (d : Cell), (L ++ [a])[m]? = some b → (h ++ [⟨ob, false⟩])[m]? = some d → (L[m]? = some b ∧ h[m]? = some d) ∨ (m = L.length ∧ b = a ∧ d = ⟨ob, false⟩) := fun m b d e1 e2 => by
    rcases Nat.lt_trichotomy m L.length with q | q | q
    · rw [List.getElem?_append_left q] at e1
      rw [List.getElem?_append_left (by rw [← k.len]; exact q)] at e2
      exact .inl ⟨e1, e2⟩
    · subst q
      rw [List.getElem?_append_right (Nat.le_refl _), Nat.sub_self] at e1
      rw [k.len, List.getElem?_append_right (Nat.le_refl _), Nat.sub_self] at e2
      cases e1; cases e2
      exact .inr ⟨rfl, rfl, rfl⟩
    · rw [List.getElem?_eq_none (by simp; omega)] at e1; cases e1
  refine ⟨k.sub, by rw [List.length_append, List.length_append, k.len]; rfl, ?_, fun m b d e1 e2 e3 => ?_, fun m d e => ?_, fun m b d e1 e2 => ?_⟩
  · rw [List.nodup_append]
    exact ⟨k.nd, by simp, fun x hx y hy => by rw [List.mem_singleton.mp hy]; exact fun z => hl (by rw [← z]; exact hx)⟩
  · rcases cs m b d e1 e2 with ⟨q1, q2⟩ | ⟨_, rfl, _⟩
    · exact k.out m b d q1 q2 e3
    · exact hs
  · rcases Nat.lt_or_ge m h.length with q | q
    · rw [List.getElem?_append_left q] at e; exact k.lim m d e
    · have : m = h.length := by
        have := (List.getElem?_eq_some_iff.mp e).1
        simp at this; omega
      subst this
      rw [List.getElem?_append_right (Nat.le_refl _), Nat.sub_self] at e
      cases e; exact lm
  · rcases cs m b d e1 e2 with ⟨q1, q2⟩ | ⟨_, rfl, rfl⟩
    · exact (k.cell m b d q1 q2).to (Ext.refl S) pre fun _ z => z
    · exact .inl ⟨o, b.mono (Ext.refl S) pre, ha⟩
theorem Step.push (st : Step L S H L' S' H') {a : Addr} (h0 : H a = none) : Step L S H (L' ++ [a]) S' H' := by
  obtain ⟨M, e, n⟩ := st.l
  refine ⟨⟨M ++ [a], by rw [e, List.append_assoc], fun b hb => ?_⟩, st.s, st.k, st.f, st.z, st.t⟩
  rcases List.mem_append.mp hb with q | q
  · exact n b q
  · rw [List.mem_singleton.mp q]; exact h0
theorem Rpw.cut {n : Nat} : ∀ {fs : List (Str × W)} {vs : List (Str × V)}, Rpw G S L fs vs → Ob.lim n (.ins "" fs) = true → Rpw G S (L.take n) fs vs
  | [], _, h, _ => h
  | (x, w) :: r, vs, h, lm => by
    obtain ⟨v, q, h1, h2, h3⟩ : ∃ v q, vs = (x, v) :: q ∧ WIs G S L w v ∧ Rpw G S L r q := h
    have lm' : w.lim n = true ∧ Ob.lim n (.ins "" r) = true := Bool.and_eq_true_iff.mp lm
    refine ⟨v, q, h1, ?_, Rpw.cut h3 lm'.2⟩
    cases w with
    | d x => exact h2
    | r m => obtain ⟨a, e1, e2⟩ := h2; exact ⟨a, by rw [List.getElem?_take_of_lt (by simpa [W.lim] using lm'.1)]; exact e1, e2⟩
theorem RrL.cut {n : Nat} : ∀ {ns : List Nat} {vs : List V}, RrL L ns vs → Ob.lim n (.lstR ns) = true → RrL (L.take n) ns vs
  | [], _, h, _ => h
  | m :: r, vs, h, lm => by
    obtain ⟨a, q, h1, h2, h3⟩ : ∃ a q, vs = .ref a :: q ∧ L[m]? = some a ∧ RrL L r q := h
    have lm' : decide (m < n) = true ∧ Ob.lim n (.lstR r) = true := Bool.and_eq_true_iff.mp lm
    exact ⟨a, q, h1, by rw [List.getElem?_take_of_lt (by simpa using lm'.1)]; exact h2, RrL.cut h3 lm'.2⟩
theorem Rrk.cut {n : Nat} : ∀ {kvs : List (D × Nat)} {l : List DE}, Rrk G S L kvs l → Ob.lim n (.dicR kvs) = true → Rrk G S (L.take n) kvs l
  | [], _, h, _ => h
  | (kd, m) :: r, l, h, lm => by
    obtain ⟨k, kv, a, l', h1, h2, h3, h4, h5⟩ : ∃ k kv a l', l = (k, kv, .ref a) :: l' ∧ kd.hk = some k ∧ Rp G S kd kv ∧ L[m]? = some a ∧ Rrk G S L r l' := h
    have lm' : decide (m < n) = true ∧ Ob.lim n (.dicR r) = true := Bool.and_eq_true_iff.mp lm
    exact ⟨k, kv, a, l', h1, h2, h3, by rw [List.getElem?_take_of_lt (by simpa using lm'.1)]; exact h4, Rrk.cut h5 lm'.2⟩
theorem ObIs.cut {n : Nat} {a : Addr} {ob : Ob} {o : HO} (h : ObIs G S L a ob o) (lm : ob.lim n = true) : ObIs G S (L.take n) a ob o := by
  cases ob with
  | lst xs => exact h
  | dic kvs => exact h
  | lstR ns => obtain ⟨ys, h1, h2⟩ := h; exact ⟨ys, h1, h2.cut lm⟩
  | dicR kvs => obtain ⟨l, h1, h2, h3⟩ := h; exact ⟨l, h1, h2.cut lm, h3⟩
  | ins c fs => obtain ⟨dx, vs, h1, h2⟩ := h; exact ⟨dx, vs, h1, h2.cut lm⟩
  | gone x => exact h
theorem lim_le {n m : Nat} (h : n ≤ m) {o : Ob} (l : o.lim n = true) : o.lim m = true := by
  cases o with
  | lstR ns => exact List.all_eq_true.mpr fun x hx => by have := List.all_eq_true.mp l x hx; simp at this ⊢; omega
  | dicR ns => exact List.all_eq_true.mpr fun x hx => by have := List.all_eq_true.mp l x hx; simp at this ⊢; omega
  | ins c fs =>
    refine List.all_eq_true.mpr fun x hx => ?_
    have := List.all_eq_true.mp l x hx
    obtain ⟨y, w⟩ := x
    cases w with
    | d _ => rfl
    | r k => simp [W.lim] at this ⊢; omega
  | _ => rfl
/-- the later cells are forgotten -/
theorem Ok.cut (k : Ok G S L h H) (n : Nat) : Ok G S (L.take n) (h.take n) H := by
  have g : ∀ {α : Type} (l : List α) (m : Nat) (x : α), (l.take n)[m]? = some x → l[m]? = some x ∧ m < n := fun l m x e => by
    by_cases q : m < n
    · rw [List.getElem?_take_of_lt q] at e; exact ⟨e, q⟩
    · rw [List.getElem?_eq_none (by simp; omega)] at e; cases e
  refine ⟨k.sub, by rw [List.length_take, List.length_take, k.len], k.nd.sublist (List.take_sublist n L), fun m a c e1 e2 e3 => k.out m a c (g _ _ _ e1).1 (g _ _ _ e2).1 e3, fun m c e => k.lim m c (g _ _ _ e).1, fun m a c e1 e2 => ?_⟩
  obtain ⟨e1', q⟩ := g _ _ _ e1
  obtain ⟨e2', _⟩ := g _ _ _ e2
  rcases k.cell m a c e1' e2' with ⟨o, h1, h2⟩ | z
  · exact .inl ⟨o, h1.cut (lim_le (Nat.le_of_lt q) (k.lim m c e2')), h2⟩
  · exact .inr z
theorem Step.cut (st : Step L S H L' S' H') : Step L S H (L'.take L.length) S' H' := by
  obtain ⟨M, e, n⟩ := st.l
  refine ⟨⟨[], ?_, fun _ h => (by cases h)⟩, st.s, st.k, st.f, st.z, st.t⟩
  rw [e, List.take_left, List.append_nil]
end
end Pe
set_option maxHeartbeats 4000000
namespace Pe
open PySem PySem.Spec PyProof.Rows L2
/-! ### judgements by what is wanted -/
def WE (X : Cx) (e : Expr) : TE := fun σ H Q => ∀ pins s, Inv X pins σ H s → wpAny (model X.prog X.w) X.A (eval e X.env) (EP X pins σ Q) X.xe s
def WT (X : Cx) (e : Expr) : TT := fun σ H Q => ∀ pins s, Inv X pins σ H s → wpAny (model X.prog X.w) X.A (isTrue e X.env (eval e X.env)) (TP X pins σ Q) X.xe s
def WW (X : Cx) (e : Expr) : TT := fun σ H Q => ∀ whole pins s, Inv X pins σ H s → wpAny (model X.prog X.w) X.A (isTrue e X.env whole) (TP X pins σ Q) X.xe s
def WA (X : Cx) (es : List Expr) : TA := fun σ H Q => ∀ pos pins s, Inv X pins σ H s → wpAny (model X.prog X.w) X.A (spliced (backTo pos (starEach es X.env))) (AP X pins σ Q) X.xe s
def WS (X : Cx) (st : Stmt) : TS := fun D σ H => ∀ pins s, Inv X pins σ H s → wpAny (model X.prog X.w) X.A (exec st X.env) (SP X pins D) X.xe s
def WSs (X : Cx) (st : List Stmt) : TS := fun D σ H => ∀ pins s, Inv X pins σ H s → wpAny (model X.prog X.w) X.A (execs st X.env) (SP X pins D) X.xe s
def WI (X : Cx) (tg iter : Expr) : TI := fun σ H R => ∀ pins s, Inv X pins σ H s →
  wpAny (model X.prog X.w) X.A (eval iter X.env) (fun v s1 => wpAny (model X.prog X.w) X.A (pyIter v) (PIE X pins σ tg R) X.xe s1) X.xe s
def WC (X : Cx) (op : CmpOp) (a b : Expr) : TE := fun σ H Q => ∀ pins s, Inv X pins σ H s →
  wpAny (model X.prog X.w) X.A (eval a X.env) (fun v s₁ => wpAny (model X.prog X.w) X.A (eval b X.env) (fun u s₂ => wpAny (model X.prog X.w) X.A (compareOp op v u) (EP X pins σ Q) X.xe s₂) X.xe s₁) X.xe s
section
variable {X : Cx} {e : Expr} {σ : L2.St} {H : Hp}
theorem peS : PE X e (WE X e) := ⟨fun pins s _ _ _ I h => h pins s I⟩
theorem ptS : PT X e (WT X e) := ⟨fun pins s _ _ _ I h => h pins s I⟩
theorem pwS : PW X e (WW X e) := ⟨fun wh pins s _ _ _ I h => h wh pins s I⟩
theorem paS {es : List Expr} : PA X es (WA X es) := ⟨fun pos pins s _ _ _ I h => h pos pins s I⟩
theorem psS {st : Stmt} : PS X st (WS X st) := ⟨fun pins s _ _ _ I h => h pins s I⟩
theorem pssS {st : List Stmt} : PSs X st (WSs X st) := ⟨fun pins s _ _ _ I h => h pins s I⟩
theorem piS {tg iter : Expr} : PI X tg iter (WI X tg iter) := ⟨fun pins s _ _ _ I h => h pins s I⟩
theorem pcS {op : CmpOp} {a b : Expr} : PC X op a b (WC X op a b) := ⟨fun pins s _ _ _ I h => h pins s I⟩
theorem WE.of {t : TE} {Q : VK} (h : PE X e t) (q : t σ H Q) : WE X e σ H Q := fun pins s I => h.run pins s σ H Q I q
theorem WT.of {t : TT} {Q : Bool → Hp → Prop} (h : PT X e t) (q : t σ H Q) : WT X e σ H Q := fun pins s I => h.run pins s σ H Q I q
theorem WW.of {t : TT} {Q : Bool → Hp → Prop} (h : PW X e t) (q : t σ H Q) : WW X e σ H Q := fun wh pins s I => h.run wh pins s σ H Q I q
theorem WA.of {es : List Expr} {t : TA} {Q : List V → Hp → Prop} (h : PA X es t) (q : t σ H Q) : WA X es σ H Q := fun pos pins s I => h.run pos pins s σ H Q I q
theorem WS.of {st : Stmt} {t : TS} {D : Ends} (h : PS X st t) (q : t D σ H) : WS X st D σ H := fun pins s I => h.run pins s σ H D I q
theorem WSs.of {st : List Stmt} {t : TS} {D : Ends} (h : PSs X st t) (q : t D σ H) : WSs X st D σ H := fun pins s I => h.run pins s σ H D I q
theorem WI.of {tg iter : Expr} {wi : TI} {R : L2.It → Hp → Prop} (h : PI X tg iter wi) (q : wi σ H R) : WI X tg iter σ H R := fun pins s I => h.run pins s σ H R I q
theorem WC.of {op : CmpOp} {a b : Expr} {t : TE} {Q : VK} (h : PC X op a b t) (q : t σ H Q) : WC X op a b σ H Q := fun pins s I => h.run pins s σ H Q I q
theorem pc_of {op : CmpOp} {a b : Expr} {r : R2} {ta tb : TE} (ho : OpR X (compareOp op) r) (ha : PE X a ta) (hb : PE X b tb) : PC X op a b (tOp r ta tb) :=
  ⟨fun pins s σ H Q I h => binT ha hb I h fun v u s2 x y H2 I2 rx ry q => ho pins s2 σ H2 x y v u Q I2 rx ry q⟩
theorem WE.mono {Q Q' : VK} (h : WE X e σ H Q) (k : ∀ v H', Q v H' → Q' v H') : WE X e σ H Q' := fun pins s I => thn (h pins s I) fun _ _ ⟨v, H', I', r, q⟩ => ⟨v, H', I', r, k v H' q⟩
theorem WSs.seq {st : Stmt} {rest : List Stmt} {D : Ends} (h : WS X st { D with nx := WSs X rest D } σ H) : WSs X (st :: rest) D σ H := WSs.of (pss_cons psS pssS) h
theorem WSs.nil {D : Ends} (h : D.nx σ H) : WSs X [] D σ H := WSs.of pss_nil h
/-- what is wanted may lock what stands there -/
theorem WE.lock {Q : VK} (h : WE X e σ H fun v H' => Q v H' ∨ ∃ p o, H' p = some o ∧ Mut (some o) ∧ ∀ ob, Q v (upd H' p (.frz ob o))) : WE X e σ H Q := fun pins s I => thn (h pins s I) fun _ _ ⟨v, H', I', r, q⟩ => by
  rcases q with q | ⟨p, o, hp, mu, q⟩
  · exact ⟨v, H', I', r, q⟩
  · obtain ⟨od, I2⟩ := I'.lock hp mu
    exact ⟨v, _, I2, r, q od⟩
end
/-- an exception's class and own dict -/
def XIs (G : Gx) (S : Hp) (x : Ex) (cls : Value) (d : Option Addr) : Prop := cls = .ref (clsAt G.mg x.c) ∧ match x.fs with
  | [] => d = none
  | f :: r => ∃ a vs, d = some a ∧ S a = some (.xd vs) ∧ Rpf G S (f :: r) vs
def Wx (X : Cx) (U : WX) : XK := fun cls d H => ∀ σ' : L2.St, σ'.length = X.N.length → U cls d σ' H
/-- what is to be shown of what a term gives -/
def Post (G : Gx) (E : XK) (L : List Addr) (S H : Hp) {α : Type} (o : Out α) (R : α → Cells → Prop) : Prop := match o with
  | .ok a h => R a h
  | .exc x h => ∀ L' S' H' cls d, Step L S H L' S' H' → Ok G S' L' h H' → XIs G S' x cls d → E cls d H'
  | .bad => False
def VIs (G : Gx) (H S' : Hp) (L' : List Addr) (H' : Hp) : Val → V → Prop
  | .w w, v => WIs G S' L' w v
  | .new o, v => ∃ a ho, v = .ref a ∧ H a = none ∧ S' a = none ∧ a ∉ L' ∧ H' a = some ho ∧ ObIs G S' L' a o ho ∧ o.lim L'.length = true
def RV (G : Gx) (L : List Addr) (S H : Hp) (Q : VK) : Val → Cells → Prop := fun v h => ∀ L' S' H' vv, Step L S H L' S' H' → Ok G S' L' h H' → VIs G H S' L' H' v vv → Q vv H'
def RW (G : Gx) (L : List Addr) (S H : Hp) (Q : VK) : W → Cells → Prop := fun w h => ∀ L' S' H' vv, Step L S H L' S' H' → Ok G S' L' h H' → WIs G S' L' w vv → Q vv H'
def RD (G : Gx) (L : List Addr) (S H : Hp) (Q : VK) : D → Cells → Prop := fun x h => ∀ L' S' H' vv, Step L S H L' S' H' → Ok G S' L' h H' → Rp G S' x vv → Q vv H'
def RB (G : Gx) (L : List Addr) (S H : Hp) (Q : Bool → Hp → Prop) : Bool → Cells → Prop := fun b h => ∀ L' S' H', Step L S H L' S' H' → Ok G S' L' h H' → Q b H'
section
variable {G : Gx} {X : Cx} {E : XK} {L L1 : List Addr} {S H S1 H1 : Hp} {α β : Type} {σ : L2.St} {e : Expr}
theorem Post.imp {o : Out α} {R R' : α → Cells → Prop} (h : Post G E L S H o R) (k : ∀ a h, R a h → R' a h) : Post G E L S H o R' := by
  cases o with
  | ok a h' => exact k a h' h
  | exc x h' => exact h
  | bad => exact h
theorem Post.bind {o : Out α} {f : α → Cells → Out β} {R : β → Cells → Prop} (h : Post G E L S H (o.bind f) R) : Post G E L S H o fun a h' => Post G E L S H (f a h') R := by
  cases o with
  | ok a h' => exact h
  | exc x h' => exact h
  | bad => exact h
theorem Post.shift {o : Out α} {R R' : α → Cells → Prop} (st : Step L S H L1 S1 H1) (h : Post G E L S H o R) (k : ∀ a h, R a h → R' a h) : Post G E L1 S1 H1 o R' := by
  cases o with
  | ok a h' => exact k a h' h
  | exc x h' => exact fun L' S' H' cls d st' ok hx => h L' S' H' cls d (st.trans st') ok hx
  | bad => exact h
theorem VIs.back (st : Step L S H L1 S1 H1) {S' H' : Hp} {L' : List Addr} {v : Val} {vv : V} (h : VIs G H1 S' L' H' v vv) : VIs G H S' L' H' v vv := by
  cases v with
  | w w => exact h
  | new o => obtain ⟨a, ho, h1, h2, h3⟩ := h; exact ⟨a, ho, h1, st.non h2, h3⟩
theorem RV.shift {Q : VK} (st : Step L S H L1 S1 H1) {v : Val} {h : Cells} (r : RV G L S H Q v h) : RV G L1 S1 H1 Q v h := fun L' S' H' vv st' ok hv => r L' S' H' vv (st.trans st') ok (hv.back st)
theorem Post.sv {o : Out Val} {Q : VK} (st : Step L S H L1 S1 H1) (h : Post G E L S H o (RV G L S H Q)) : Post G E L1 S1 H1 o (RV G L1 S1 H1 Q) := h.shift st fun _ _ r => r.shift st
/-- e gives o -/
def SE (G : Gx) (X : Cx) (E : XK) (σ : L2.St) (L : List Addr) (S H : Hp) (e : Expr) (o : Out Val) : Prop := ∀ Q : VK, Post G E L S H o (RV G L S H Q) → WE X e σ H Q
end
theorem ds_rpf {G : Gx} {S : Hp} {L : List Addr} : ∀ {fs : List (Str × Pe.W)} {ds : List (Str × D)} {vs : List (Str × V)}, Ws.ds fs = some ds → Rpw G S L fs vs → Rpf G S ds vs
  | [], ds, vs, e, r => by cases e; exact r
  | (y, .r n) :: fs, ds, vs, e, r => by unfold Ws.ds at e; cases e
  | (y, .d d) :: fs, ds, vs, e, r => by
    unfold Ws.ds at e
    cases q : Ws.ds fs with
    | none => rw [q] at e; cases e
    | some q' =>
      rw [q] at e; cases e
      obtain ⟨v, r', h1, h2, h3⟩ : ∃ v q, vs = (y, v) :: q ∧ WIs G S L (.d d) v ∧ Rpw G S L fs q := r
      exact ⟨v, r', h1, h2, ds_rpf q h3⟩
/-- a cell becomes a plain value -/
theorem gone_ok {G : Gx} {L L' : List Addr} {S H S' H' : Hp} {h : Cells} {n : Nat} {a : Addr} {o : Ob} {x : D} (st : Step L S H L' S' H') (ok : Ok G S' L' h H') (hn : L'[n]? = some a) (hc : h[n]? = some ⟨o, false⟩) (fz : o.fz = some x) :
    (∃ S2, Step L S H L' S2 H' ∧ Ok G S2 L' (h.set n ⟨.gone x, false⟩) H' ∧ Rp G S2 x (.ref a)) ∨ (o.fzL = none ∧ ∃ ho, H' a = some ho ∧ Mut (some ho) ∧ ∀ od, ∃ S2, Step L S H L' S2 (upd H' a (.frz od ho)) ∧ Ok G S2 L' (h.set n ⟨.gone x, false⟩) (upd H' a (.frz od ho)) ∧ Rp G S2 x (.ref a)) := by
  have nl : n < h.length := (List.getElem?_eq_some_iff.mp hc).1
  have hm : a ∈ L' := List.mem_of_getElem? hn
  -- in what the step knows
  have fa : H a = none ∨ a ∈ L := by
    obtain ⟨M, e, q⟩ := st.l
    rw [e] at hm
    rcases List.mem_append.mp hm with z | z
    · exact .inr z
    · exact .inl (q a z)
  -- the cells, one of them gone
  have key : ∀ {S2 H2 : Hp}, Ext S' S2 → Ext S2 H2 → (∀ b, b ≠ a → S2 b = S' b) → (∀ b u, b ≠ a → H' b = some u → H2 b = some u) → Rp G S2 x (.ref a) → (∃ u, S2 a = some u) → Ok G S2 L' (h.set n ⟨.gone x, false⟩) H2 := by
    intro S2 H2 e1 e2 e3 e4 r e5
    refine ⟨e2, by rw [List.length_set]; exact ok.len, ok.nd, fun m b d q1 q2 q3 => ?_, fun m d q => ?_, fun m b d q1 q2 => ?_⟩
    · by_cases q : n = m
      · subst q; rw [List.getElem?_set_self nl] at q2; cases q2; cases q3
      · rw [List.getElem?_set_ne q] at q2
        have ne : b ≠ a := fun z => q (by subst z; exact (List.getElem?_inj (List.getElem?_eq_some_iff.mp hn).1 ok.nd).mp (hn.trans q1.symm))
        rw [e3 b ne]; exact ok.out m b d q1 q2 q3
    · by_cases z : n = m
      · subst z; rw [List.getElem?_set_self nl] at q; cases q; rfl
      · rw [List.getElem?_set_ne z] at q; exact ok.lim m d q
    · by_cases q : n = m
      · subst q
        rw [hn] at q1; cases q1
        rw [List.getElem?_set_self nl] at q2; cases q2
        exact .inr ⟨x, rfl, r, e5⟩
      · rw [List.getElem?_set_ne q] at q2
        have ne : b ≠ a := fun z => q (by subst z; exact (List.getElem?_inj (List.getElem?_eq_some_iff.mp hn).1 ok.nd).mp (hn.trans q1.symm))
        exact (ok.cell m b d q1 q2).to e1 (fun _ _ z => z) fun u z => e4 b u ne z
  have stp : ∀ {S2 H2 : Hp}, Ext S' S2 → (∀ b, b ≠ a → S2 b = S' b) → (∀ b u, b ∉ L → H' b = some u → H2 b = some u ∨ b = a) → (∀ b ob u, H' b = some (.frz ob u) → H2 b = some (.frz ob u)) → (∀ b, H' b ≠ none → H2 b ≠ none) → Step L S H L' S2 H2 := by
    intro S2 H2 e1 e2 e3 e4 e5
    refine ⟨st.l, st.s.trans e1, fun b u hb q => ?_, fun b u q1 q2 => ?_, fun b ob u q => e4 b ob u (st.z b ob u q), fun b q => e5 b (st.t b q)⟩
    · rcases e3 b u hb (st.k b u hb q) with z | z
      · exact z
      · subst z
        rcases fa with f | f
        · rw [f] at q; cases q
        · exact absurd f hb
    · by_cases ne : b = a
      · subst ne
        rcases fa with f | f
        · exact .inl f
        · exact .inr (.inr f)
      · rw [e2 b ne] at q2; exact st.f b u q1 q2
  cases o with
  | gone y =>
    cases fz
    rcases ok.cell n a _ hn hc with ⟨o, ob, _⟩ | ⟨z, e, r, u, q⟩
    · exact False.elim ob
    · cases e
      exact .inl ⟨S', st, key (Ext.refl _) ok.sub (fun _ _ => rfl) (fun _ _ _ z => z) r ⟨u, q⟩, r⟩
  | lstR ns => cases fz
  | dicR kvs => cases fz
  | lst xs =>
    cases fz
    obtain ⟨ho, ob, q⟩ := (ok.cell n a _ hn hc).ob rfl
    have q : H' a = some ho := by simpa using q
    have hs := ok.out n a _ hn hc rfl
    obtain ⟨ys, rfl, r⟩ := ob
    have r2 : Rp G (upd S' a (.lst ys)) (.lst xs) (.ref a) := ⟨a, ys, rfl, SqL.of upd_same, Rps.ext (ext_new hs) _ _ r⟩
    refine .inl ⟨upd S' a (.lst ys), stp (ext_new hs) (fun b ne => upd_ne ne) (fun _ _ _ z => .inl z) (fun _ _ _ z => z) (fun _ z => z), key (ext_new hs) (fun b u e => ?_) (fun b ne => upd_ne ne) (fun _ _ _ z => z) r2 ⟨_, upd_same⟩, r2⟩
    by_cases z : b = a
    · subst z; rw [upd_same] at e; cases e; exact q
    · rw [upd_ne z] at e; exact ok.sub b u e
  | ins c fs =>
    obtain ⟨ho, ob, q⟩ := (ok.cell n a _ hn hc).ob rfl
    have q : H' a = some ho := by simpa using q
    have hs := ok.out n a _ hn hc rfl
    obtain ⟨dx, vs, rfl, r⟩ := ob
    obtain ⟨ds, e1, rfl⟩ := Option.map_eq_some_iff.mp (show (Ws.ds fs).map (D.ins c) = some x from fz)
    have r2 : Rp G (upd S' a (.ins (clsAt G.mg c) dx vs)) (.ins c ds) (.ref a) := ⟨a, dx, vs, rfl, upd_same, Rpf.ext (ext_new hs) _ _ (ds_rpf e1 r)⟩
    refine .inl ⟨_, stp (ext_new hs) (fun b ne => upd_ne ne) (fun _ _ _ z => .inl z) (fun _ _ _ z => z) (fun _ z => z), key (ext_new hs) (fun b u e => ?_) (fun b ne => upd_ne ne) (fun _ _ _ z => z) r2 ⟨_, upd_same⟩, r2⟩
    by_cases z : b = a
    · subst z; rw [upd_same] at e; cases e; exact q
    · rw [upd_ne z] at e; exact ok.sub b u e
  | dic kvs =>
    cases fz
    obtain ⟨ho, ob, q⟩ := (ok.cell n a _ hn hc).ob rfl
    have q : H' a = some ho := by simpa using q
    have hs := ok.out n a _ hn hc rfl
    obtain ⟨l, rfl, r, nd⟩ := ob
    refine .inr ⟨rfl, _, q, trivial, fun od => ?_⟩
    have r2 : Rp G (upd S' a (.frz od (dicO G.w a l))) (.dic kvs) (.ref a) := ⟨a, od, l, rfl, upd_same, Rpk.ext (ext_new hs) _ _ r, nd⟩
    refine ⟨_, stp (ext_new hs) (fun b ne => upd_ne ne) (fun b u _ z => ?_) (fun b ob u z => ?_) (fun b z => ?_), key (ext_new hs) (fun b u e => ?_) (fun b ne => upd_ne ne) (fun b u ne z => by rw [upd_ne ne]; exact z) r2 ⟨_, upd_same⟩, r2⟩
    · by_cases ne : b = a
      · exact .inr ne
      · exact .inl (by rw [upd_ne ne]; exact z)
    · rw [upd_ne (fun y => by rw [y, q] at z; cases z)]; exact z
    · by_cases ne : b = a
      · subst ne; rw [upd_same]; simp
      · rw [upd_ne ne]; exact z
    · by_cases z : b = a
      · subst z; rw [upd_same] at e ⊢; exact e
      · rw [upd_ne z] at e ⊢; exact ok.sub b u e
/-- an object just made becomes a plain value -/
theorem fz_ok {G : Gx} {L L' : List Addr} {S H S' H' : Hp} {h : Cells} {a : Addr} {ho : HO} {o : Ob} {x : D} (st : Step L S H L' S' H') (ok : Ok G S' L' h H') (h0 : H a = none) (hs : S' a = none) (hl : a ∉ L') (ha : H' a = some ho) (ob : ObIs G S' L' a o ho) (fz : o.fz = some x) :
    (∃ S2, Step L S H L' S2 H' ∧ Ok G S2 L' h H' ∧ Rp G S2 x (.ref a)) ∨ ∀ od, ∃ S2, Step L S H L' S2 (upd H' a (.frz od ho)) ∧ Ok G S2 L' h (upd H' a (.frz od ho)) ∧ Rp G S2 x (.ref a) := by
  cases o with
  | lst xs =>
    obtain ⟨ys, rfl, r⟩ := ob
    cases fz
    exact .inl ⟨_, st.settle h0 hs, ok.settle ha hs hl, a, ys, rfl, SqL.of upd_same, Rps.ext (ext_new hs) _ _ r⟩
  | dic kvs =>
    obtain ⟨l, rfl, r, nd⟩ := ob
    cases fz
    refine .inr fun od => ⟨_, (st.lock h0).settle h0 hs, (ok.lock hs hl).settle upd_same hs hl, a, od, l, rfl, upd_same, Rpk.ext (ext_new hs) _ _ r, nd⟩
  | lstR ns => cases fz
  | dicR kvs => cases fz
  | gone y => exact False.elim ob
  | ins c fs =>
    obtain ⟨dx, vs, rfl, r⟩ := ob
    have fz' : (Ws.ds fs).map (D.ins c) = some x := fz
    obtain ⟨ds, e1, rfl⟩ := Option.map_eq_some_iff.mp fz'
    refine .inl ⟨_, st.settle h0 hs, ok.settle ha hs hl, a, dx, vs, rfl, upd_same, ?_⟩
    exact Rpf.ext (ext_new hs) _ _ (ds_rpf e1 r)
section
variable {G : Gx} {X : Cx} {E : XK} {L L1 : List Addr} {S H S1 H1 : Hp} {σ : L2.St} {e : Expr}
theorem SE.toD {o : Out Val} (he : SE G X E σ L S H e o) {Q : VK} (h : Post G E L S H o.toD (RD G L S H Q)) : WE X e σ H Q := by
  refine WE.lock (he _ ?_)
  cases o with
  | exc x h' => exact h
  | bad => exact h
  | ok v h' =>
    intro L' S' H' vv st ok hv
    cases v with
    | w w =>
      cases w with
      | d x => exact .inl (h L' S' H' vv st ok hv)
      | r n =>
        obtain ⟨a, hn, rfl⟩ := hv
        have h' : Post G E L S H (match h'[n]? with | some ⟨ob, false⟩ => (match ob.fz with | some x => Out.ok x (h'.set n ⟨.gone x, false⟩) | none => Out.bad) | _ => Out.bad) (RD G L S H Q) := h
        split at h'
        · rename_i ob hc
          split at h'
          · rename_i x fz
            rcases gone_ok st ok hn hc fz with ⟨S2, s2, o2, r2⟩ | ⟨_, ho, q1, q2, k⟩
            · exact .inl (h' _ _ _ _ s2 o2 r2)
            · exact .inr ⟨a, ho, q1, q2, fun od => let ⟨S2, s2, o2, r2⟩ := k od; h' _ _ _ _ s2 o2 r2⟩
          · exact False.elim h'
        · exact False.elim h'
    | new ob =>
      have h' : Post G E L S H (match ob.fz with | some x => Out.ok x h' | none => Out.bad) (RD G L S H Q) := h
      obtain ⟨a, ho, rfl, h0, hs, hl, ha, hob, _⟩ := hv
      cases q : ob.fz with
      | none => rw [q] at h'; exact False.elim h'
      | some x =>
        rw [q] at h'
        rcases fz_ok st ok h0 hs hl ha hob q with ⟨S2, s2, o2, r2⟩ | k
        · exact .inl (h' _ _ _ _ s2 o2 r2)
        · exact .inr ⟨a, ho, ha, hob.kind.2, fun od => let ⟨S2, s2, o2, r2⟩ := k od; h' _ _ _ _ s2 o2 r2⟩
theorem SE.toW {o : Out Val} (he : SE G X E σ L S H e o) {Q : VK} (h : Post G E L S H o.toW (RW G L S H Q)) : WE X e σ H Q := by
  refine WE.lock (he _ ?_)
  cases o with
  | exc x h' => exact h
  | bad => exact h
  | ok v h' =>
    intro L' S' H' vv st ok hv
    cases v with
    | w w => exact .inl (h L' S' H' vv st ok hv)
    | new ob =>
      have h' : Post G E L S H (match ob.fz.map W.d with | some x => Out.ok x h' | none => Out.bad) (RW G L S H Q) := h
      obtain ⟨a, ho, rfl, h0, hs, hl, ha, hob, _⟩ := hv
      cases q : ob.fz with
      | none => rw [q] at h'; exact False.elim h'
      | some x =>
        rw [q] at h'
        rcases fz_ok st ok h0 hs hl ha hob q with ⟨S2, s2, o2, r2⟩ | k
        · exact .inl (h' _ _ _ _ s2 o2 r2)
        · exact .inr ⟨a, ho, ha, hob.kind.2, fun od => let ⟨S2, s2, o2, r2⟩ := k od; h' _ _ _ _ s2 o2 r2⟩
end
end Pe
set_option maxHeartbeats 4000000
namespace Pe
open PySem L2
/-! ### from the text to the terms -/
def ixOf : List Str → Str → Option Nat
  | [], _ => none
  | y :: r, x => if y = x then some 0 else (ixOf r x).map (· + 1)
def plainName (x : Str) : Bool := !(x == ("__debug__" : Str)) && !(x == ("__classdict__" : Str)) && !(x == ("__name__" : Str))
def isGl (sc : Scope) (x : Str) : Bool := plainName x && (match sc.names.lookup x with
  | some .globalImplicit => true
  | _ => false)
def isVis (sc : Scope) (x : Str) : Bool := plainName x && (match sc.names.lookup x with
  | some .local => true
  | some .cell => true
  | some .free => true
  | _ => false)
def notStar : Expr → Bool
  | .Starred _ _ => false
  | _ => true
def notSlice : Expr → Bool
  | .Slice _ _ _ _ => false
  | _ => true
def notSuper : Expr → Bool
  | .Call (.Name x _) [] [] _ => !(x == ("super" : Str))
  | _ => true
def notSet : Expr → Bool
  | .Set _ _ _ => false
  | _ => true
def trC : Const → Option D
  | .none => some .non
  | .bool b => some (.bl b)
  | .int i => some (.int i)
  | .str s => some (.str s)
  | _ => none
def trTy (x : Str) : Ty :=
  if x = "int" then .int else if x = "bool" then .bool else if x = "str" then .str else if x = "list" then .list else if x = "tuple" then .tuple else if x = "dict" then .dict else .own x
def trL (T : Expr → Option M) : List Expr → Option (List M)
  | [] => some []
  | e :: r => if notStar e then (match T e, trL T r with
    | some m, some ms => some (m :: ms)
    | _, _ => none) else none
def trB (T : Expr → Option M) (f : M → M → M) : List Expr → Option M
  | [] => none
  | [e] => T e
  | e :: r => match T e, trB T f r with
    | some m, some q => some (f m q)
    | _, _ => none
def trTg (N : List Str) : Expr → Option Tg
  | .Name x _ => (ixOf N x).map .name
  | .Tuple [.Name x _, .Name y _] _ _ => match ixOf N x, ixOf N y with
    | some i, some j => some (.tup [i, j])
    | _, _ => none
  | _ => none
def tgNames : Expr → List Str
  | .Name x _ => [x]
  | .Tuple [.Name x _, .Name y _] _ _ => [x, y]
  | _ => []
def isPairTg : Expr → Bool
  | .Tuple [.Name _ _, .Name _ _] _ _ => true
  | _ => false
def trWk (T : Expr → Option M) (sc : Scope) (tg : Expr) : Expr → Option Wk
  | .Call (.Name x p) [a] [] q => if isGl sc x && x == ("range" : Str) then (if notStar a then (T a).map .range else none)
    else if isGl sc x && x == ("enumerate" : Str) then (if isPairTg tg && notStar a then (T a).map .enum else none)
    else (T (.Call (.Name x p) [a] [] q)).map .val
  | .Call (.Name x p) [a, b] [] q => if isGl sc x && x == ("range" : Str) then (if notStar a && notStar b then (match T a, T b with
      | some m, some n => some (.range2 m n)
      | _, _ => none) else none)
    else (T (.Call (.Name x p) [a, b] [] q)).map .val
  | .Call (.Attribute e m apos) [] [] cpos => if m = "items" then (if isPairTg tg && notSuper e && (apos.endLine == cpos.line) then (T e).map .items else none)
    else if m = "values" then (if notSuper e && (apos.endLine == cpos.line) then (T e).map .values else none)
    else (T (.Call (.Attribute e m apos) [] [] cpos)).map .val
  | .Set _ _ _ => none
  | e => (T e).map .val
/-- a display with nothing in it: an object of its own for each turn -/
def newDisp : Expr → Bool
  | .List [] _ => true
  | .Dict [] [] _ => true
  | _ => false
/-- the comprehension's own names, with their slots -/
def ownOf (N : List Str) (tg : Expr) : List (Str × Nat) := (tgNames tg).filterMap fun x => (ixOf N x).map fun i => (x, i)
def tgOk (scope : Scope) (tg : Expr) : Bool := (tgNames tg).all fun x => decide (scope.names.lookup x = some .local) || decide (scope.names.lookup x = some .cell)
def isBm (m : Str) : Bool := m == "append" || m == "extend" || m == "clear" || m == "pop" || m == "get"
def trO (T : Expr → Option M) : Option Expr → Option (Option M)
  | none => some none
  | some e => (T e).map some
def trKw (T : Expr → Option M) : List Keyword → Option (List (Str × M))
  | [] => some []
  | ⟨some x, e, _⟩ :: r => match T e, trKw T r with
    | some m, some ms => some ((x, m) :: ms)
    | _, _ => none
  | _ => none
def trE (N : List Str) : Nat → Scope → Expr → Option M
  | 0, _, _ => none
  | n + 1, sc, e => match e with
    | .Name x _ => if isVis sc x then (ixOf N x).map .var else if isGl sc x then some (.glob x) else none
    | .Constant c _ _ => (trC c).map .con
    | .BinOp a op b _ => match trE N n sc a, trE N n sc b with
      | some x, some y => some (.bin op x y)
      | _, _ => none
    | .UnaryOp .Not a _ => (trE N n sc a).map .not
    | .UnaryOp .USub a _ => (trE N n sc a).map .neg
    | .BoolOp .And es _ => trB (trE N n sc) .and es
    | .BoolOp .Or es _ => trB (trE N n sc) .or es
    | .Compare a [op] [b] _ => if !(behindInMarks op b) then (match trE N n sc a, trE N n sc b with
      | some x, some y => some (.cmp op x y)
      | _, _ => none) else none
    | .Compare a [op, op'] [b, c] _ => if !(lastMarks [op, op'] [b, c]) then (match trE N n sc a, trE N n sc b, trE N n sc c with
      | some x, some y, some z => some (.chain op op' x y z)
      | _, _, _ => none) else none
    | .IfExp c a b _ => match trE N n sc c, trE N n sc a, trE N n sc b with
      | some x, some y, some z => some (.ife x y z)
      | _, _, _ => none
    | .Tuple es _ _ => (trL (trE N n sc) es).map .tup
    | .List (.Starred a _ :: es) _ => match trE N n sc a, trL (trE N n sc) es with
      | some x, some ms => some (.lstS x ms)
      | _, _ => none
    | .List es _ => (trL (trE N n sc) es).map .lst
    | .Dict [] [] _ => some .dnew
    | .Call (.Name x _) es [] _ => if isGl sc x then (if x == ("isinstance" : Str) then (match es with
      | [a, .Name t _] => if isGl sc t && notStar a then (trE N n sc a).map fun m => .isi m (trTy t) else none
      | _ => none) else (trL (trE N n sc) es).map (.call x)) else none
    | .Call (.Name x _) (e0 :: es) (k0 :: kws) _ => if isGl sc x then (match trL (trE N n sc) (e0 :: es), trKw (trE N n sc) (k0 :: kws) with
      | some ms, some vs => some (.callK x ms (vs.map (·.1)) (vs.map (·.2)))
      | _, _ => none) else none
    | .Call (.Attribute o m apos) es [] cpos => if notSuper o && (apos.endLine == cpos.line) then (match trE N n sc o, trL (trE N n sc) es with
      | some x, some ms => if ms.length < 20 then some (if isBm m = true then .bm x m ms else .meth x m ms) else none
      | _, _ => none) else none
    | .Attribute o f _ => if notSuper o then (trE N n sc o).map fun x => .attr x f else none
    | .Subscript a (.Slice lo hi none _) _ => match trE N n sc a, trO (trE N n sc) lo, trO (trE N n sc) hi with
      | some x, some l, some u => some (.slice x l u)
      | _, _, _ => none
    | .Subscript (.List es _) b _ => if notSlice b then (match trL (trE N n sc) es, trE N n sc b with
      | some ms, some y => some (.pick ms y)
      | _, _ => none) else none
    | .Subscript a b _ => if notSlice b then (match trE N n sc a, trE N n sc b with
      | some x, some y => some (.sub x y)
      | _, _ => none) else none
    | .ListComp elt [⟨tg, iter, ifs, k⟩] scope _ => if k == 0 && blkC N sc scope (ownOf N tg) && tgOk scope tg then (match trTg N tg, trWk (trE N n sc) sc tg iter, trE N n (relS scope sc) elt with
      | some t, some w, some m => match ifs with
        | [] => some (.lc m t w none)
        | [c] => (trE N n (relS scope sc) c).map fun c => .lc m t w (some c)
        | _ => none
      | _, _, _ => none) else none
    | .DictComp kx vx [⟨tg, iter, ifs, k⟩] scope _ => if k == 0 && blkC N sc scope (ownOf N tg) && tgOk scope tg then (match trTg N tg, trWk (trE N n sc) sc tg iter, trE N n (relS scope sc) kx, trE N n (relS scope sc) vx with
      | some t, some w, some m, some q => match ifs with
        | [] => some (if newDisp vx = true then .dcR m q t w else .dc m q t w none)
        | [c] => (trE N n (relS scope sc) c).map fun c => .dc m q t w (some c)
        | _ => none
      | _, _, _, _ => none) else none
    | _ => none
end Pe
set_option maxHeartbeats 4000000
namespace Pe
open PySem PySem.Spec PyProof.Rows L2
/-! ### what holds around an expression -/
structure Good (G : Gx) (N : List Str) (sc : Scope) (k : Nat) (X : Cx) : Prop where
  P : X.prog = G.P
  w : X.w = G.w
  K : X.K = G.K
  mg : X.mg = G.mg
  base : X.base = G.base
  hN : X.N = N
  nd : N.Nodup
  sc : X.env.scope = sc
  calm : X.calm = true
  room : Room k X.A
def EnvOk (G : Gx) (S : Hp) (L : List Addr) (ρ : Pe.Env) (σ : L2.St) : Prop := ρ.length = σ.length ∧ ∀ (i : Nat) w, ρ[i]? = some (some w) → ∃ v, σ[i]? = some (some v) ∧ WIs G S L w v
theorem EnvOk.mono {G : Gx} {S S' : Hp} {L L' : List Addr} {ρ : Pe.Env} {σ : L2.St} (h : EnvOk G S L ρ σ) (e : Ext S S') (p : Pre L L') : EnvOk G S' L' ρ σ := ⟨h.1, fun i w q => let ⟨v, a, b⟩ := h.2 i w q; ⟨v, a, b.mono e p⟩⟩
theorem EnvOk.step {G : Gx} {S H S' H' : Hp} {L L' : List Addr} {ρ : Pe.Env} {σ : L2.St} (h : EnvOk G S L ρ σ) (st : Step L S H L' S' H') : EnvOk G S' L' ρ σ := h.mono st.s st.pre
/-- e's term is m -/
def SndE (G : Gx) (P : Prog) (cl : Cl) (X : Cx) (E : XK) (σ : L2.St) (e : Expr) (m : M) : Prop := ∀ ρ S L h H, Ok G S L h H → EnvOk G S L ρ σ → SE G X E σ L S H e (evalE P cl ρ m h)
/-! ### values that are read -/
/-- what v is at this moment -/
def Vw (G : Gx) (S H : Hp) : D → V → Prop
  | .lst xs, v => ∃ a ys, v = .ref a ∧ SqL G.K H a ys ∧ Rps G S xs ys
  | .dic kvs, v => ∃ a, ∃ l : List DE, v = .ref a ∧ Rd H a (dicO G.w a l) ∧ Rpk G S kvs l ∧ (l.map fun p : DE => p.1).Nodup
  | .ins c fs, v => ∃ a dx vs, v = .ref a ∧ H a = some (.ins (clsAt G.mg c) dx vs) ∧ Rpf G S fs vs
  | x, v => Rp G S x v
section
variable {G : Gx} {S H : Hp} {L : List Addr} {h : Cells}
theorem rp_vw (ok : Ok G S L h H) {q : D} {v : V} (r : Rp G S q v) : Vw G S H q v := by
  cases q with
  | lst xs => obtain ⟨a, ys, h1, h2, h3⟩ := r; exact ⟨a, ys, h1, ext_sq ok.sub h2, h3⟩
  | dic kvs => obtain ⟨a, o, l, h1, h2, h3, h4⟩ := r; exact ⟨a, l, h1, .inr ⟨o, ok.sub _ _ h2⟩, h3, h4⟩
  | ins c fs => obtain ⟨a, dx, vs, h1, h2, h3⟩ := r; exact ⟨a, dx, vs, h1, ok.sub _ _ h2, h3⟩
  | _ => exact r
theorem fz_kind {o : Ob} {q : D} (l : o.liv = true) (h : o.fz = some q) : (∃ xs, o = .lst xs ∧ q = .lst xs) ∨ (∃ xs, o = .dic xs ∧ q = .dic xs) ∨ ∃ c fs ds, o = .ins c fs ∧ q = .ins c ds ∧ Ws.ds fs = some ds := by
  cases o with
  | lst xs => cases h; exact .inl ⟨xs, rfl, rfl⟩
  | dic xs => cases h; exact .inr (.inl ⟨xs, rfl, rfl⟩)
  | lstR _ => cases h
  | dicR _ => cases h
  | gone _ => cases l
  | ins c fs =>
    obtain ⟨ds, e, rfl⟩ := Option.map_eq_some_iff.mp (show (Ws.ds fs).map (D.ins c) = some q from h)
    exact .inr (.inr ⟨c, fs, ds, rfl, rfl, e⟩)
theorem ob_vw {a : Addr} {o : Ob} {ho : HO} {q : D} (ob : ObIs G S L a o ho) (r : Rd H a ho) (ri : (∃ c fs, o = .ins c fs) → H a = some ho) (e : o.fz = some q) : Vw G S H q (.ref a) := by
  rcases fz_kind ob.liv e with ⟨xs, rfl, rfl⟩ | ⟨xs, rfl, rfl⟩ | ⟨c, fs, ds, rfl, rfl, e2⟩
  · obtain ⟨ys, rfl, h2⟩ := ob
    exact ⟨a, ys, rfl, .inl r, h2⟩
  · obtain ⟨l, rfl, h2, h3⟩ := ob
    exact ⟨a, l, rfl, r, h2, h3⟩
  · obtain ⟨dx, vs, rfl, h2⟩ := ob
    exact ⟨a, dx, vs, rfl, ri ⟨c, fs, rfl⟩, ds_rpf e2 h2⟩
theorem rd_vw (ok : Ok G S L h H) {w : Pe.W} {q : D} {v : V} (r : WIs G S L w v) (e : w.rd h = some q) : Vw G S H q v := by
  cases w with
  | d x => cases e; exact rp_vw ok r
  | r n =>
    obtain ⟨a, h1, rfl⟩ := r
    obtain ⟨c, hc, ci⟩ := ok.at h1
    have e' : rdC h n = some q := e
    unfold rdC at e'
    rw [hc] at e'
    obtain ⟨cob, clk⟩ := c
    rcases ci with ⟨o, ob, q2⟩ | ⟨x, e1, r, _⟩
    · have e2 : cob.fz = some q ∧ ((∃ c fs, cob = .ins c fs) → clk = false) := by
        cases cob <;> cases clk <;> simp_all [Cell.rd]
      refine ob_vw ob ?_ (fun z => ?_) e2.1
      · split at q2
        · exact .inr q2
        · exact .inl q2
      · rw [e2.2 z] at q2; simpa using q2
    · cases e1
      have : x = q := by
        have e3 : Cell.rd ⟨.gone x, clk⟩ = some q := e'
        cases clk <;> (cases e3; rfl)
      subst this
      exact rp_vw ok r
/-- .. not locked, for lists -/
theorem rdu_vw (ok : Ok G S L h H) {w : Pe.W} {q : D} {v : V} (r : WIs G S L w v) (e : w.rdu h = some q) : Vw G S H q v ∧ ∀ xs, q = .lst xs → ∃ a ys, v = .ref a ∧ SqL G.K H a ys ∧ Rps G S xs ys := by
  have pl : ∀ {v : V}, Rp G S q v → Vw G S H q v ∧ ∀ xs, q = .lst xs → ∃ a ys, v = .ref a ∧ SqL G.K H a ys ∧ Rps G S xs ys := fun r => by
    refine ⟨rp_vw ok r, fun xs e => ?_⟩
    subst e
    obtain ⟨a, ys, h1, h2, h3⟩ := r
    exact ⟨a, ys, h1, ext_sq ok.sub h2, h3⟩
  cases w with
  | d x =>
    cases e
    exact pl r
  | r n =>
    obtain ⟨a, h1, rfl⟩ := r
    obtain ⟨c, hc, ci⟩ := ok.at h1
    have e' : (match h[n]? with | some c => c.rdu | none => none) = some q := e
    rw [hc] at e'
    obtain ⟨cob, clk⟩ := c
    have e2 : cob.fz = some q ∧ clk = false := by
      cases clk <;> simp_all [Cell.rdu]
    obtain ⟨e2, rfl⟩ := e2
    rcases ci with ⟨o, ob, q2⟩ | ⟨x, e1, r, _⟩
    · have q2 : H a = some o := by simpa using q2
      refine ⟨ob_vw ob (.inl q2) (fun _ => q2) e2, fun xs e => ?_⟩
      subst e
      rcases fz_kind ob.liv e2 with ⟨xs', rfl, z⟩ | ⟨xs', rfl, z⟩ | ⟨c, fs, ds, rfl, z, _⟩
      · cases z
        obtain ⟨ys, rfl, h2⟩ := ob
        exact ⟨a, ys, rfl, .inl (.inl q2), h2⟩
      · cases z
      · cases z
    · cases e1
      cases e2
      exact pl r
end
/-! ### plain data -/
mutual
def D.py : D → PyData
  | .bl b => .bool b
  | .int i => .int i
  | .str s => .str s
  | .tup xs => .tuple (D.pys xs)
  | .lst xs => .list (D.pys xs)
  | _ => .none
def D.pys : List D → List PyData
  | [] => []
  | x :: xs => D.py x :: D.pys xs
end
mutual
theorem py_plain : ∀ d : D, d.pl = true → d.py.plain = true
  | .non, _ => rfl
  | .bl _, _ => rfl
  | .int _, _ => rfl
  | .str _, _ => rfl
  | .tup xs, h => pys_plain xs h
  | .lst xs, h => pys_plain xs h
  | .dic _, h => by cases h
  | .ins _ _, h => by cases h
  | .cls _, h => by cases h
theorem pys_plain : ∀ ds : List D, D.pls ds = true → PyData.plainAll (D.pys ds) = true
  | [], _ => rfl
  | x :: xs, h => by
    have h' : (D.pl x && D.pls xs) = true := h
    rw [Bool.and_eq_true] at h'
    show (PyData.plain x.py && PyData.plainAll (D.pys xs)) = true
    rw [py_plain x h'.1, pys_plain xs h'.2]; rfl
end
mutual
theorem py_depth : ∀ d : D, d.py.depth ≤ d.dep
  | .non => Nat.le_refl 0
  | .bl _ => Nat.le_refl 0
  | .int _ => Nat.le_refl 0
  | .str _ => Nat.le_refl 0
  | .tup xs => by
    have h := pys_depth xs
    show PyData.depth (.tuple (D.pys xs)) ≤ D.deps xs + 1
    simp only [PyData.depth]; omega
  | .lst xs => by
    have h := pys_depth xs
    show PyData.depth (.list (D.pys xs)) ≤ D.deps xs + 1
    simp only [PyData.depth]; omega
  | .dic _ => Nat.le_refl 0
  | .ins _ _ => Nat.le_refl 0
  | .cls _ => Nat.le_refl 0
theorem pys_depth : ∀ ds : List D, PyData.depthAll (D.pys ds) ≤ D.deps ds
  | [] => Nat.le_refl 0
  | x :: xs => by
    have h1 := py_depth x
    have h2 := pys_depth xs
    show PyData.depthAll (x.py :: D.pys xs) ≤ max (D.dep x) (D.deps xs)
    simp only [PyData.depthAll]; omega
end
mutual
theorem py_eqv : ∀ x y : D, x.pl = true → y.pl = true → PyData.eqv x.py y.py = D.eqv x y
  | .non, y, _, hy => by cases y <;> first | rfl | cases hy
  | .bl _, y, _, hy => by cases y <;> first | rfl | cases hy
  | .int _, y, _, hy => by cases y <;> first | rfl | cases hy
  | .str _, y, _, hy => by cases y <;> first | rfl | cases hy
  | .tup xs, y, hx, hy => by
    cases y with
    | tup ys => exact pys_eqv xs ys hx hy
    | dic _ => cases hy
    | ins _ _ => cases hy
    | cls _ => cases hy
    | _ => rfl
  | .lst xs, y, hx, hy => by
    cases y with
    | lst ys => exact pys_eqv xs ys hx hy
    | dic _ => cases hy
    | ins _ _ => cases hy
    | cls _ => cases hy
    | _ => rfl
  | .dic _, _, h, _ => by cases h
  | .ins _ _, _, h, _ => by cases h
  | .cls _, _, h, _ => by cases h
theorem pys_eqv : ∀ xs ys : List D, D.pls xs = true → D.pls ys = true → PyData.eqvAll (D.pys xs) (D.pys ys) = D.eqvs xs ys
  | [], [], _, _ => rfl
  | [], _ :: _, _, _ => rfl
  | _ :: _, [], _, _ => rfl
  | x :: xs, y :: ys, hx, hy => by
    have hx' : (D.pl x && D.pls xs) = true := hx
    have hy' : (D.pl y && D.pls ys) = true := hy
    rw [Bool.and_eq_true] at hx' hy'
    show (PyData.eqv x.py y.py && PyData.eqvAll (D.pys xs) (D.pys ys)) = (D.eqv x y && D.eqvs xs ys)
    rw [py_eqv x y hx'.1 hy'.1, pys_eqv xs ys hx'.2 hy'.2]
end
section
variable {G : Gx} {S H : Hp}
mutual
theorem rp_dp (sub : Ext S H) : ∀ (d : D) (v : V), d.pl = true → Rp G S d v → Dp G.K H v d.py
  | .non, v, _, h => by rw [show v = .non from h]; exact .non
  | .bl b, v, _, h => by rw [show v = .bl b from h]; exact .bl b
  | .int i, v, _, h => by rw [show v = .int i from h]; exact .int i
  | .str s, v, _, h => by rw [show v = .str s from h]; exact .str s
  | .tup xs, v, p, h => by
    obtain ⟨a, ys, h1, h2, h3⟩ : ∃ a ys, v = .ref a ∧ TupA G.K S a ys ∧ Rps G S xs ys := h
    rw [h1]; exact .tup (TupA.sq (h2.imp (sub _ _) fun z => z)) (rps_dp sub xs ys p h3)
  | .lst xs, v, p, h => by
    obtain ⟨a, ys, h1, h2, h3⟩ : ∃ a ys, v = .ref a ∧ SqL G.K S a ys ∧ Rps G S xs ys := h
    rw [h1]; exact .lst (ext_sq sub h2) (rps_dp sub xs ys p h3)
  | .dic _, _, p, _ => by cases p
  | .ins _ _, _, p, _ => by cases p
  | .cls _, _, p, _ => by cases p
theorem rps_dp (sub : Ext S H) : ∀ (ds : List D) (vs : List V), D.pls ds = true → Rps G S ds vs → DpAll G.K H vs (D.pys ds)
  | [], vs, _, h => by rw [show vs = [] from h]; exact .nil
  | x :: xs, vs, p, h => by
    obtain ⟨v, r, h1, h2, h3⟩ : ∃ v r, vs = v :: r ∧ Rp G S x v ∧ Rps G S xs r := h
    have p' : (D.pl x && D.pls xs) = true := p
    rw [Bool.and_eq_true] at p'
    rw [h1]; exact .cons (rp_dp sub x v p'.1 h2) (rps_dp sub xs r p'.2 h3)
end
theorem vw_dp (sub : Ext S H) {d : D} {v : V} (p : d.pl = true) (h : Vw G S H d v) : Dp G.K H v d.py := by
  cases d with
  | lst xs =>
    obtain ⟨a, ys, rfl, h2, h3⟩ := h
    exact .lst h2 (rps_dp sub xs ys p h3)
  | dic _ => cases p
  | ins _ _ => cases p
  | cls _ => cases p
  | non => exact rp_dp sub .non v p h
  | bl b => exact rp_dp sub (.bl b) v p h
  | int i => exact rp_dp sub (.int i) v p h
  | str s => exact rp_dp sub (.str s) v p h
  | tup xs => exact rp_dp sub (.tup xs) v p h
end
end Pe
set_option maxHeartbeats 4000000
namespace Pe
open PySem PySem.Spec PyProof.Rows L2
/-! ### a class's own == and len -/
structure OwnM (K : PySem.W.Frag) (C : Addr) (m : Str) (f : Addr) : Prop where
  at_ : PySem.W.findIn K (.ref C) m = some (some (.ref f))
  fn : PySem.W.isFn K (.ref f) = true
structure OwnNe (K : PySem.W.Frag) (C : Addr) : Prop where
  at_ : PySem.W.findIn K (.ref C) "__ne__" = some (some (.builtin "object.__ne__"))
  top : PySem.W.mroIn K C (.type "object") = some true
section
variable {X : Cx} {pins : List (Addr × Obj)} {σ : L2.St} {H : Hp} {s : Shared} {k : Nat} {f C : Addr} {sp : Sp}
/-- an operator, a call, at the slots σ -/
def OpRs (X : Cx) (σ : L2.St) (f : Value → Value → Sem Value) (r : R2) : Prop := ∀ (pins : List (Addr × Obj)) (s : Shared) (H : Hp) (x y : V) (v u : Value) (Q : VK), Inv X pins σ H s → L2.RelV x v → L2.RelV y u → r x y H Q → wpAny (model X.prog X.w) X.A (f v u) (EP X pins σ Q) X.xe s
def CallRs (X : Cx) (σ : L2.St) (f : Value) (r : List V → Hp → VK → Prop) : Prop := ∀ (pins : List (Addr × Obj)) (s : Shared) (H : Hp) (xs : List V) (us : List Value) (Q : VK), Inv X pins σ H s → Vals xs us → r xs H Q → wpAny (model X.prog X.w) X.A (call f us) (EP X pins σ Q) X.xe s
theorem OpRs.of {f : Value → Value → Sem Value} {r : R2} (h : OpR X f r) : OpRs X σ f r := fun pins s H x y v u Q I rx ry q => h pins s σ H x y v u Q I rx ry q
theorem CallRs.of {f : Value} {r : List V → Hp → VK → Prop} (h : CallR X f r) : CallRs X σ f r := fun pins s H xs us Q I rx q => h pins s σ H xs us Q I rx q
/-- the def at f is called, somewhere below X's place -/
theorem run_at {E : XK} {Q : VK} {us : List Value} {vs : List V} {A : Around} (F : FnR X.prog X.w X.K X.mg X.base (L2.CX X.prog X.w) k f sp) (hr : Room k A) (hf : A.frames = X.A.frames) (hx : PassesAt (L2.CX X.prog X.w) X σ E) (I : Inv X pins σ H s) (r : Vals vs us) (h : sp vs H Q E) :
    wpAny (model X.prog X.w) A (call (.ref f) us) (EP X pins σ Q) X.xe s := by
  have e0 : Env0 X.prog X.w X.K X.mg X.base A X.stack s H := by
    have e := I.env0
    exact ⟨by rw [hf]; exact e.frames, e.mod, e.bs, e.bsz, e.funs, e.frf, e.hok, e.bare⟩
  refine wpAny_call (codeAny_mono (F A X.stack s H us vs Q E hr e0 r h) fun r s' hq => ?_)
  cases r with
  | error e => exact hx pins H s e s' I hq
  | ok fl =>
    cases fl with
    | ret u => exact I.after hq
    | next => exact False.elim hq
    | brk => exact False.elim hq
    | cont => exact False.elim hq
/-- the type that a value shows -/
def TyK (X : Cx) (H : Hp) (y : V) (t : Value) : Prop := ∀ pins σ s u, Inv X pins σ H s → L2.RelV y u → ∃ P : Heap → Prop, PySem.W.KitX X.K u t P ∧ P s.heap ∧ u ≠ .builtin "__main__.__loader__#opaque"
theorem looks_ty {x : V} {u t : Value} (I : Inv X pins σ H s) (rx : L2.RelV x u) (ty : TyK X H x t) : PySem.W.Looks (model X.prog X.w) s.heap (typeOf u) t := by
  obtain ⟨P, kit, p, _⟩ := ty _ _ _ _ I rx
  exact kit.ty _ _ I.kIn p
theorem tyk_of {x : V} {t : Value} (ty : TyX X.K H x t) : TyK X H x t := fun _ _ _ _ I rx => kit_of I rx ty
/-- an own == promises a bool -/
def rOwn (X : Cx) (C : Addr) (sp : Sp) (E : XK) (neg : Bool) : R2 := fun x y H Q => ∃ a dx fs t, x = .ref a ∧ H a = some (.ins C dx fs) ∧ TyK X H y t ∧ PySem.W.notFirst X.K C t = true ∧ sp [x, y] H (fun v H1 => ∃ b, v = .bl b ∧ Q (.bl (b != neg)) H1) E
theorem op_ownEq {E : XK} (F : FnR X.prog X.w X.K X.mg X.base (L2.CX X.prog X.w) k f sp) (hr : Room k X.A) (hx : PassesAt (L2.CX X.prog X.w) X σ E) (o : OwnM X.K C "__eq__" f) : OpRs X σ (compareOp .Eq) (rOwn X C sp E false) := by
  intro pins s H x y v u Q I rx ry h
  obtain ⟨a, dx, fs, t, rfl, ha, ty, nf, h⟩ := h
  cases rx
  obtain ⟨mA, J, _⟩ := ins_get I.hok ha
  obtain ⟨od, J, _⟩ := J.look
  obtain ⟨m, hF⟩ := I.fr
  show wpAny (model X.prog X.w) X.A (richCompare .Eq _ u) (EP X pins σ Q) X.xe s
  refine PySem.W.cmp_K (op := .Eq) (tb := t) hr.units0 hF I.ok.mod.kin J (looks_ty I ry ty) nf o.at_ o.fn ?_
  refine thn (run_at (us := [.ref a, u]) (vs := [.ref a, y]) F hr rfl hx I (.cons rfl (.cons ry .nil)) h) fun w s' z => ?_
  obtain ⟨w', H', I', rw', b, ew, q⟩ := z
  subst ew
  cases rw'
  refine ⟨.bl b, H', I', rfl, ?_⟩
  have e : (b != false) = b := by cases b <;> rfl
  rw [e] at q
  exact q
theorem op_ownNe {E : XK} (F : FnR X.prog X.w X.K X.mg X.base (L2.CX X.prog X.w) k f sp) (hr : Room (k + 1) X.A) (hx : PassesAt (L2.CX X.prog X.w) X σ E) (o : OwnM X.K C "__eq__" f) (n : OwnNe X.K C) : OpRs X σ (compareOp .NotEq) (rOwn X C sp E true) := by
  intro pins s H x y v u Q I rx ry h
  obtain ⟨a, dx, fs, t, rfl, ha, ty, nf, h⟩ := h
  cases rx
  obtain ⟨mA, J, _⟩ := ins_get I.hok ha
  obtain ⟨od, J, _⟩ := J.look
  have lt := looks_ty I ry ty
  have X0 := I.kIn
  -- object.__ne__ asks the own ==
  have two : wpAny (model X.prog X.w) X.A (tryCompare (.ref a) "__ne__" u) (fun r s' => ∃ b : Bool, r = some (.bool b) ∧ EP X pins σ Q (.bool b) s') X.xe s := by
    unfold tryCompare
    refine wpAny_bind ?_
    simp only [callSpecialIfBound?, bindSpecialIfBound?]
    refine wpAny_holding (wpAny_bind (wpAny_bind (wpAny_bind (J.type.here ((PySem.W.looks_findIn X0 n.at_).here ?_)))))
    simp only [PySem.F.cmp_object.ne.bind]
    refine wpAny_bind (wpAny_askSetting (wpAny_ite ?_))
    have fin : wpAny (model X.prog X.w) X.A (call (.builtin "object.__ne__") ([.ref a] ++ [u]) >>= fun v => pure (some v)) (fun r s' => wpAny (model X.prog X.w) X.A (match r with
        | some .notImplemented | none => pure none
        | some v => pure (some v)) (fun r s' => ∃ b : Bool, r = some (.bool b) ∧ EP X pins σ Q (.bool b) s') X.xe s') X.xe s := by
      refine wpAny_bind (wpAny_call (codeAny_call_builtin PySem.F.cmp_object.ne.plain PySem.F.cmpEntry_ne (PySem.W.check_slot PySem.F.cmpKind_ne PySem.F.cmpSplit_ne (J.type.andThen (PySem.W.looks_mroIn X0 n.top)) (PySem.F.cmpArgs_ne _ _) ?_)))
      unfold Builtin.«object.__ne__»
      show wpAny (model X.prog X.w) X.A.in1 (cRoomFor "comparison" [.ref a, u] >>= _) _ _ s
      refine wpAny_bind (wpAny_cRoomFor hr.in1.units0 ?_)
      refine wpAny_bind (PySem.W.ifBound_K X0 J o.at_ o.fn ?_)
      refine wpAny_mono (run_at (us := [.ref a, u]) (vs := [.ref a, y]) F hr.in1 rfl hx I (.cons rfl (.cons ry .nil)) h) (fun w s' z => ?_) fun _ _ e => e
      obtain ⟨w', H', I', rw', b, ew, q⟩ := z
      subst ew
      cases rw'
      refine wpAny_bind (wpAny_truthy_bool ?_)
      refine wpAny_pure ?_
      refine wpAny_pure ?_
      refine wpAny_pure ⟨!b, rfl, .bl (!b), H', I', rfl, ?_⟩
      have e : (b != true) = !b := by cases b <;> rfl
      rw [e] at q
      exact q
    split
    · exact wpAny_bind (wpAny_pure (wpAny_pure fin))
    · exact wpAny_tryCatch (wpAny_bind (wpAny_pure (wpAny_pure fin)))
  show wpAny (model X.prog X.w) X.A (richCompare .NotEq _ u) (EP X pins σ Q) X.xe s
  unfold richCompare
  simp only [oneThing_ref]
  refine wpAny_holding (wpAny_bind (wpAny_cRoomFor hr.units0 ?_))
  refine wpAny_bind (J.type.here (wpAny_bind (lt.here ?_)))
  split
  · rename_i q
    have e : PySem.W.subIn X.K t (.ref C) = some false := by
      rcases Bool.or_eq_true_iff.mp nf with e | e
      · rw [beq_iff_eq.mp e] at q; simp at q
      · exact beq_iff_eq.mp e
    refine wpAny_bind ((PySem.W.looks_subIn X0 e).here ?_)
    simp only [Bool.false_eq_true, if_false]
    refine wpAny_bind (wpAny_mono two (fun r s' z => ?_) fun _ _ e => e)
    obtain ⟨b, rfl, hq⟩ := z
    exact wpAny_pure hq
  · refine wpAny_bind (wpAny_pure ?_)
    simp only [Bool.false_eq_true, if_false]
    refine wpAny_bind (wpAny_mono two (fun r s' z => ?_) fun _ _ e => e)
    obtain ⟨b, rfl, hq⟩ := z
    exact wpAny_pure hq
/-- len of an own class -/
theorem call_lenO {E : XK} (F : FnR X.prog X.w X.K X.mg X.base (L2.CX X.prog X.w) k f sp) (hr : Room (k + 1) X.A) (hx : PassesAt (L2.CX X.prog X.w) X σ E) (o : OwnM X.K C "__len__" f) :
    CallRs X σ (.builtin "len") (fun xs H Q => ∃ a dx fs, xs = [.ref a] ∧ H a = some (.ins C dx fs) ∧ sp [.ref a] H (fun v H1 => ∃ i : Int, v = .int i ∧ 0 ≤ i ∧ i < 2 ^ 63 ∧ Q (.int i) H1) E) := by
  intro pins s H xs us Q I r h
  obtain ⟨a, dx, fs, rfl, ha, h⟩ := h
  obtain ⟨u, rfl, ru⟩ := vals1 r
  obtain rfl : u = Value.ref a := ru
  obtain ⟨mA, J, _⟩ := ins_get I.hok ha
  obtain ⟨od, J, _⟩ := J.look
  refine Calls.call_function_entry kind_len plain_len entry_len (args_len1 _) ?_
  unfold Builtin.«len»
  refine wpAny_bind (m := oneArg "len" _) (wpAny_pure ?_)
  refine wpAny_bind (PySem.W.special_fn I.kIn J o.at_ (beq_iff_eq.mp o.fn) ?_)
  refine wpAny_mono (run_at (us := [.ref a]) (vs := [.ref a]) F hr.in1 rfl hx I (.cons rfl .nil) h) (fun w s' z => ?_) fun _ _ e => e
  obtain ⟨w', H', I', rw', i, ew, i1, i2, q⟩ := z
  subst ew
  obtain ⟨t, rfl⟩ := rw'
  refine wpAny_bind (wpAny_holding (wpAny_pure ?_))
  refine wpAny_bind (wpAny_letGo ?_)
  show wpAny _ _ (if (i : Int) < 0 then _ else _) _ _ _
  rw [if_neg (by omega)]
  show wpAny _ _ (if (i : Int) ≥ 2 ^ 63 then _ else _) _ _ _
  rw [if_neg (by omega)]
  exact wpAny_bind (wpAny_mkInt (wpAny_pure ⟨_, rfl, .int i, H', I'.tok _, ⟨_, rfl⟩, q⟩))
end
def sevenT : List String := ["NoneType", "bool", "int", "str", "list", "tuple", "dict"]
structure ClsT (K : PySem.W.Frag) (C : Addr) : Prop where
  cl : Cls K C
  ha : PySem.W.findIn K (.ref C) "__class__" = some (some (.builtin "object.__class__"))
  hn : PySem.W.specialIn K (.builtin "object.__class__") "__get__" = some (some (.builtin "getset_descriptor.__get__"))
  htk : PySem.W.takesIn K (.builtin "object.__class__") = some true
  hm : PySem.W.mroIn K C (.type "object") = some true
  kit : ∀ t ∈ sevenT, PySem.W.kitOne K (.type t) (.ref C) = some false
  nf : ∀ t ∈ sevenT, PySem.W.notFirst K C (.type t) = true
def clsTB (x : Str) (K : PySem.W.Frag) : Bool := (He.Fa.cls x).ok K && (He.eqO (PySem.W.findIn K (.ref (He.ga K x)) "__class__") (some (some (.builtin "object.__class__"))) && (He.eqO (PySem.W.specialIn K (.builtin "object.__class__") "__get__") (some (some (.builtin "getset_descriptor.__get__"))) &&
  (PySem.W.takesIn K (.builtin "object.__class__") == some true && (PySem.W.mroIn K (He.ga K x) (.type "object") == some true && sevenT.all fun t => PySem.W.kitOne K (.type t) (.ref (He.ga K x)) == some false && PySem.W.notFirst K (He.ga K x) (.type t)))))
theorem clsTB_ok {x : Str} {K : PySem.W.Frag} (h : clsTB x K = true) : ClsT K (He.ga K x) := by
  obtain ⟨h1, h⟩ := He.ba h
  obtain ⟨h2, h⟩ := He.ba h
  obtain ⟨h3, h⟩ := He.ba h
  obtain ⟨h4, h⟩ := He.ba h
  obtain ⟨h5, h⟩ := He.ba h
  have h := List.all_eq_true.mp h
  exact ⟨He.cls_ok h1, He.eqO_ok h2, He.eqO_ok h3, beq_iff_eq.mp h4, beq_iff_eq.mp h5, fun t ht => beq_iff_eq.mp (He.ba (h t ht)).1, fun t ht => (He.ba (h t ht)).2⟩
def ownMB (x m : Str) (K : PySem.W.Frag) : Bool := He.eqO (PySem.W.findIn K (.ref (He.ga K x)) m) (some (some (.ref (He.ma K (He.ga K x) m)))) && PySem.W.isFn K (.ref (He.ma K (He.ga K x) m))
theorem ownMB_ok {x m : Str} {K : PySem.W.Frag} (h : ownMB x m K = true) : OwnM K (He.ga K x) m (He.ma K (He.ga K x) m) := ⟨He.eqO_ok (He.ba h).1, (He.ba h).2⟩
def ownNeB (x : Str) (K : PySem.W.Frag) : Bool := He.eqO (PySem.W.findIn K (.ref (He.ga K x)) "__ne__") (some (some (.builtin "object.__ne__"))) && PySem.W.mroIn K (He.ga K x) (.type "object") == some true
theorem ownNeB_ok {x : Str} {K : PySem.W.Frag} (h : ownNeB x K = true) : OwnNe K (He.ga K x) := ⟨He.eqO_ok (He.ba h).1, beq_iff_eq.mp (He.ba h).2⟩
/-- the built-in type of a plain value -/
def D.ty : D → String
  | .non => "NoneType" | .bl _ => "bool" | .int _ => "int" | .str _ => "str" | .lst _ => "list" | .tup _ => "tuple" | .dic _ => "dict" | .ins _ _ => "object" | .cls _ => "type"
section
variable {G : Gx} {X : Cx} {S H : Hp}
theorem wr_tup {K : PySem.W.Frag} {a : Addr} {xs : List V} (h : WrT K a xs) : ∃ o, K.lookup a = some o ∧ o.cls = .type "tuple" := let ⟨o, _, _, h1, h2, _⟩ := h; ⟨o, h1, h2⟩
def flatTy : D → Bool
  | .ins _ _ => false
  | .cls _ => false
  | _ => true
theorem vw_ty (hK : X.K = G.K) (hw : X.w = G.w) (sub : Ext S H) {q : D} {v : V} (r : Vw G S H q v) (n : flatTy q = true) : TyK X H v (.type q.ty) := by
  cases q with
  | non => rw [show v = .non from r]; exact tyk_of (.base .non)
  | bl b => rw [show v = .bl b from r]; exact tyk_of (.base (.bl b))
  | int i => rw [show v = .int i from r]; exact tyk_of (.base (.int i))
  | str i => rw [show v = .str i from r]; exact tyk_of (.base (.str i))
  | lst xs =>
    obtain ⟨a, ys, rfl, h2, h3⟩ := r
    intro pins σ s u I ru
    cases (show u = Value.ref a from ru)
    obtain ⟨its, _, ⟨o, n, ho, hc, _⟩, _⟩ := I.list (a := a) (xs := ys) (by rw [hK]; exact h2)
    exact ⟨_, PySem.W.kitx_list, ⟨o, ho, hc⟩, fun z => nomatch z⟩
  | tup xs =>
    obtain ⟨a, ys, rfl, h2, h3⟩ := r
    rcases h2 with h2 | h2
    · exact tyk_of (.base (.tup (sub _ _ h2)))
    · obtain ⟨o, e1, e2⟩ := wr_tup h2
      exact tyk_of (.kTuple (by rw [hK]; exact e1) e2)
  | dic kvs =>
    obtain ⟨a, l, rfl, h2, h3⟩ := r
    intro pins σ s u I ru
    cases (show u = Value.ref a from ru)
    have h2' : Rd H a (dicO X.w a l) := by rw [hw]; exact h2
    obtain ⟨_, _, es, ep, ⟨o, ho, hc, _⟩, _⟩ := dic_rd I h2'
    exact ⟨_, PySem.W.kitx_dict, ⟨o, ho, hc.1⟩, fun z => nomatch z⟩
  | ins c fs => cases n
  | cls c => cases n
theorem ins_ty {a C dx : Addr} {fs : List (Str × V)} (ct : ClsT X.K C) (h : H a = some (.ins C dx fs)) : TyK X H (.ref a) (.ref C) := tyk_of (.base (.ins h ct.cl ct.ha ct.hn ct.htk ct.hm))
theorem flat_mem {q : D} (h : flatTy q = true) : q.ty ∈ sevenT := by cases q <;> first | (cases h; done) | simp [D.ty, sevenT]
theorem kit_self {K : PySem.W.Frag} {C : Addr} : PySem.W.kitOne K (.ref C) (.ref C) = some true := by
  unfold PySem.W.kitOne
  rw [if_pos (by simp)]
theorem nf_self {K : PySem.W.Frag} {C : Addr} : PySem.W.notFirst K C (.ref C) = true := by
  unfold PySem.W.notFirst
  simp
/-- isinstance, the type told -/
theorem cr_isi : CallR X (.builtin "isinstance") (fun xs H Q => ∃ x c u t b, xs = [x, c] ∧ ClsV c u ∧ TyK X H x t ∧ PySem.W.kitOne X.K t u = some b ∧ Q (.bl b) H) := by
  intro pins s σ H xs us Q I r h
  obtain ⟨x, c, u, t, b, rfl, k, ty, e, q⟩ := h
  obtain ⟨u1, u2, rfl, r1, r2⟩ := vals2 r
  have e2 := k.eq r2
  subst e2
  obtain ⟨P, Z, p, hx⟩ := ty _ _ _ _ I r1
  exact PySem.W.kia_one Z I.kIn p e hx fun tk => ⟨.bl b, H, I.tok tk, rfl, q⟩
end
end Pe
set_option maxHeartbeats 4000000
namespace Pe
open PySem PySem.Spec PyProof.Rows L2
section
variable {G : Gx} {P : Prog} {cl : Cl} {X : Cx} {E : XK} {σ : L2.St} {a b c e : Expr} {ma mb mc : M} {pos : Pos} {N : List Str} {sc : Scope} {k : Nat}
theorem Post.sh {α : Type} {L L1 : List Addr} {S H S1 H1 : Hp} {o : Out α} {R : α → Cells → Prop} (st : Step L S H L1 S1 H1) (h : Post G E L S H o R) : Post G E L1 S1 H1 o R := h.shift st fun _ _ r => r
section
variable {ρ : Pe.Env} {σ : L2.St} {S H : Hp} {L : List Addr} {h : Cells} {β : Type} {R : β → Cells → Prop}
/-- one operand -/
theorem one_w (ha : SndE G P cl X E σ a ma) (ok : Ok G S L h H) (en : EnvOk G S L ρ σ) {K : Pe.W → Cells → Out β} {Q : VK}
    (hp : Post G E L S H ((evalE P cl ρ ma h).toW.bind K) R)
    (hk : ∀ x h1 v L1 S1 H1, Step L S H L1 S1 H1 → Ok G S1 L1 h1 H1 → EnvOk G S1 L1 ρ σ → WIs G S1 L1 x v → Post G E L1 S1 H1 (K x h1) R → Q v H1) : WE X a σ H Q :=
  (ha ρ S L h H ok en).toW (hp.bind.imp fun x h1 p L1 S1 H1 v st ok1 r => hk x h1 v L1 S1 H1 st ok1 (en.step st) r (p.sh st))
theorem one_d (ha : SndE G P cl X E σ a ma) (ok : Ok G S L h H) (en : EnvOk G S L ρ σ) {K : D → Cells → Out β} {Q : VK}
    (hp : Post G E L S H ((evalE P cl ρ ma h).toD.bind K) R)
    (hk : ∀ x h1 v L1 S1 H1, Step L S H L1 S1 H1 → Ok G S1 L1 h1 H1 → EnvOk G S1 L1 ρ σ → Rp G S1 x v → Post G E L1 S1 H1 (K x h1) R → Q v H1) : WE X a σ H Q :=
  (ha ρ S L h H ok en).toD (hp.bind.imp fun x h1 p L1 S1 H1 v st ok1 r => hk x h1 v L1 S1 H1 st ok1 (en.step st) r (p.sh st))
theorem one_v (ha : SndE G P cl X E σ a ma) (ok : Ok G S L h H) (en : EnvOk G S L ρ σ) {K : Val → Cells → Out β} {Q : VK}
    (hp : Post G E L S H ((evalE P cl ρ ma h).bind K) R)
    (hk : ∀ x h1 v L1 S1 H1, Step L S H L1 S1 H1 → Ok G S1 L1 h1 H1 → EnvOk G S1 L1 ρ σ → VIs G H S1 L1 H1 x v → Post G E L1 S1 H1 (K x h1) R → Q v H1) : WE X a σ H Q :=
  ha ρ S L h H ok en _ (hp.bind.imp fun x h1 p L1 S1 H1 v st ok1 r => hk x h1 v L1 S1 H1 st ok1 (en.step st) r (p.sh st))
theorem two_w (ha : SndE G P cl X E σ a ma) (hb : SndE G P cl X E σ b mb) (ok : Ok G S L h H) (en : EnvOk G S L ρ σ) {K : Pe.W → Pe.W → Cells → Out β} {Q : V → V → Hp → Prop}
    (hp : Post G E L S H ((evalE P cl ρ ma h).toW.bind fun x h => (evalE P cl ρ mb h).toW.bind fun y h => K x y h) R)
    (hk : ∀ x y h2 v u L2 S2 H2, Step L S H L2 S2 H2 → Ok G S2 L2 h2 H2 → EnvOk G S2 L2 ρ σ → WIs G S2 L2 x v → WIs G S2 L2 y u → Post G E L2 S2 H2 (K x y h2) R → Q v u H2) : WE X a σ H fun v H1 => WE X b σ H1 fun u H2 => Q v u H2 :=
  one_w ha ok en hp fun x h1 v L1 S1 H1 st ok1 en1 r p => one_w hb ok1 en1 p fun y h2 u L2 S2 H2 st2 ok2 en2 r2 p2 =>
    hk x y h2 v u L2 S2 H2 (st.trans st2) ok2 en2 (r.mono st2.s st2.pre) r2 p2
end
theorem norm_ok {S H : Hp} {L : List Addr} {h : Cells} {w : Pe.W} {v : V} (ok : Ok G S L h H) (r : WIs G S L w v) : WIs G S L (w.norm h) v := by
  cases w with
  | d x => exact r
  | r n =>
    show WIs G S L (match h[n]? with | some ⟨.gone x, _⟩ => .d x | _ => .r n) v
    split
    · rename_i x lk hn
      obtain ⟨a, e1, rfl⟩ := r
      rcases ok.cell n a _ e1 hn with ⟨o, ob, _⟩ | ⟨y, e2, r2, _⟩
      · exact False.elim ob
      · cases e2; exact r2
    · exact r
/-! ### names, constants -/
theorem ixOf_ok : ∀ {N : List Str} {x : Str} {i : Nat}, ixOf N x = some i → N[i]? = some x
  | [], _, _, h => by cases h
  | y :: r, x, i, h => by
    unfold ixOf at h
    split at h
    · cases h; rename_i e; subst e; rfl
    · obtain ⟨j, h1, rfl⟩ := Option.map_eq_some_iff.mp h
      simpa using ixOf_ok h1
theorem plainName_ok {x : Str} (h : plainName x = true) : (x == ("__debug__" : Str)) = false ∧ (x == ("__classdict__" : Str)) = false ∧ x ≠ "__name__" := by
  unfold plainName at h
  simp only [Bool.and_eq_true, Bool.not_eq_true'] at h
  exact ⟨h.1.1, h.1.2, by simpa using h.2⟩
theorem isVis_ok {sc : Scope} {x : Str} (h : isVis sc x = true) : plainName x = true ∧ Vis sc x := by
  unfold isVis at h
  rw [Bool.and_eq_true] at h
  refine ⟨h.1, ?_⟩
  have h2 := h.2
  unfold Vis
  split at h2 <;> first | exact .inl (by assumption) | exact .inr (.inl (by assumption)) | exact .inr (.inr (by assumption)) | cases h2
theorem isGl_ok {sc : Scope} {x : Str} (h : isGl sc x = true) : plainName x = true ∧ sc.names.lookup x = some .globalImplicit := by
  unfold isGl at h
  rw [Bool.and_eq_true] at h
  refine ⟨h.1, ?_⟩
  have h2 := h.2
  split at h2
  · assumption
  · cases h2
theorem Good.gl (g : Good G N sc k X) {x : Str} (h : isGl sc x = true) : Gl X x := by
  show X.env.scope.names.lookup x = _
  rw [g.sc]; exact (isGl_ok h).2
theorem snd_var (g : Good G N sc k X) {x : Str} {i : Nat} (hv : isVis sc x = true) (hi : ixOf N x = some i) : SndE G P cl X E σ (.Name x pos) (.var i) := fun ρ S L h H ok en Q hp => by
  obtain ⟨h1, h2⟩ := isVis_ok hv
  obtain ⟨n1, n2, _⟩ := plainName_ok h1
  have hp' : Post G E L S H (match ρ[i]? with | some (some w) => Out.ok (Val.w (w.norm h)) h | _ => Out.bad) (RV G L S H Q) := hp
  split at hp'
  · rename_i w hw
    obtain ⟨v, e1, e2⟩ := en.2 i w hw
    exact WE.of (pe_var (by rw [g.hN]; exact ixOf_ok hi) (by rw [g.sc]; exact h2) n1 n2) ⟨v, e1, hp' L S H v Step.refl ok (norm_ok ok e2)⟩
  · exact hp'.elim
theorem snd_con {cv : Const} {j : Nat} {d : D} (hd : trC cv = some d) : SndE G P cl X E σ (.Constant cv j pos) (.con d) := fun ρ S L h H ok en Q hp => by
  cases cv <;> first
    | (cases hd; exact WE.of pe_non (hp L S H _ Step.refl ok rfl))
    | (cases hd; exact WE.of pe_bl (hp L S H _ Step.refl ok rfl))
    | (cases hd; exact WE.of pe_int (hp L S H _ Step.refl ok rfl))
    | (cases hd; exact WE.of pe_str (hp L S H _ Step.refl ok rfl))
    | (cases hd)
/-- the module's constants, the built-in names that stand -/
structure PF (G : Gx) (P : Prog) : Prop where
  con : ∀ x d, P.con x = some d → ∃ u v, G.mg x = some u ∧ RelV v u ∧ ∀ S, Rp G S d v
  free : ∀ x, P.free x = true → G.mg x = none
theorem snd_glob (pf : PF G P) (g : Good G N sc k X) {x : Str} (hx : isGl sc x = true) : SndE G P cl X E σ (.Name x pos) (.glob x) := fun ρ S L h H ok en Q hp => by
  have hp' : Post G E L S H (match P.con x with | some d => Out.ok (vD d) h | none => Out.bad) (RV G L S H Q) := hp
  split at hp'
  · rename_i d hd
    obtain ⟨u, v, h1, h2, h3⟩ := pf.con x d hd
    exact WE.of (pe_glob (g.gl hx) (by rw [g.mg]; exact h1) h2 (plainName_ok (isGl_ok hx).1).1) (hp' L S H v Step.refl ok (h3 S))
  · exact hp'.elim
/-! ### + and * of lists that may be locked -/
theorem list_add_any (l : Addr) (items : Array Value) (n : Nat) (b : Addr) (items2 : Array Value) (n2 : Nat) (sl sl2 : Array (Option Value)) (hc0 : items.size + items2.size ≤ sizeLine) :
    Meets (Builtin.«list.__add__» ⟨[.ref l, .ref b], []⟩) (fun _ R s => s.heap.get? l = some { cls := .type "list", dict := none, data := .seq items n, slots := sl } ∧ s.heap.get? b = some { cls := .type "list", dict := none, data := .seq items2 n2, slots := sl2 } ∧ R (.ok (.ret (Value.ref s.heap.objs.size))) { s with heap := s.heap.push { cls := Value.type "list", data := Data.seq (items ++ items2) }, toks := s.toks }) :=
  .of_wp fun prog w A R s h => by obtain ⟨hp, g, d, tk, os⟩ := s; obtain ⟨hl, hb, h⟩ := h; have f1 := AutoSeq1.idx_int; have f2 := AutoSeq1.sub_tuple_tuple; have f3 := AutoSeq1.sub_list_list; have f4 := AutoSeq1.sub_tuple_list; have f5 := AutoSeq1.sub_list_tuple; wp_walk using AutoSeq1.wpAny_loadPart' hl, AutoSeq1.wpAny_loadPart' hb; exact ⟨_, rfl, h⟩
theorem rmul_any (a : Int) (t : Tok) (l : Addr) (items : Array Value) (n : Nat) (sl : Array (Option Value)) :
    Meets (Builtin.«int.__rmul__» ⟨[.int a t, .ref l], []⟩) (fun _ R s => s.heap.get? l = some { cls := .type "list", dict := none, data := .seq items n, slots := sl } ∧ R (.ok (.ret Value.notImplemented)) s) :=
  .of_wp fun prog w A R s h => by obtain ⟨hp, g, d, tk, os⟩ := s; obtain ⟨hl, h⟩ := h; wp_walk; exact ⟨_, rfl, h⟩
theorem list_mul_any (l : Addr) (items : Array Value) (n : Nat) (sl : Array (Option Value)) (x : Int) (u : Tok) (hc0 : ¬(!Builtin.List.listFitsIndex x) = true) (hc1 : ¬items.size * x.toNat > (2 ^ 63 - 1) / 8) (hc2 : ¬Builtin.List.listTooLong (items.size * x.toNat) = true) :
    Meets (Builtin.«list.__mul__» ⟨[.ref l, .int x u], []⟩) (fun _ R s => s.heap.get? l = some { cls := .type "list", dict := none, data := .seq items n, slots := sl } ∧ R (.ok (.ret (Value.ref s.heap.objs.size))) { s with heap := s.heap.push { cls := Value.type "list", data := Data.seq (List.foldl (fun x1 x2 => x1 ++ x2) #[] (List.replicate (if items.isEmpty = true then 0 else x.toNat) items)) }, toks := s.toks }) :=
  .of_wp fun prog w A R s h => by
    obtain ⟨hp, g, d, tk, os⟩ := s; obtain ⟨hl, h⟩ := h
    have hsz := AutoListH.joined_fits hc2
    wp_walk; refine wpAny_ite_false (decide_eq_false (Nat.not_lt.mpr hsz)) ?_; wp_walk; exact ⟨_, rfl, h⟩
def rCatS (K : PySem.W.Frag) : R2 := fun x y H Q => ∃ l b xs zs, x = .ref l ∧ y = .ref b ∧ SqL K H l xs ∧ SqL K H b zs ∧ xs.length + zs.length ≤ sizeLine ∧ ∀ p, H p = none → Q (.ref p) (upd H p (.lst (xs ++ zs)))
theorem op_catS : OpR X (binaryOp .Add) (rCatS X.K) := by
  intro pins s σ H x y v u Q I rx ry h
  obtain ⟨l, b, xs, zs, rfl, rfl, hH, hB, hz, q⟩ := h
  cases rx
  cases ry
  obtain ⟨its, r, ⟨⟨oc, od, odt, osl⟩, n, e, oc1, od1, odd⟩, _⟩ := I.list hH
  obtain ⟨its2, r2, ⟨⟨oc2, od2, odt2, osl2⟩, n2, e2, oc3, od3, odd2⟩, _⟩ := I.list hB
  have hl := r.length
  have hl2 := r2.length
  simp only at oc1 od1 odd oc3 od3 odd2
  subst oc1 od1 odd oc3 od3 odd2
  refine concat_meets ⟨_, e, rfl⟩ ⟨_, e2, rfl⟩ noFill_list_add seq_list_add F.slot_list_add F.entry_list_add (F.args_list_add_2 _ _) (list_add_any l its.toArray n b its2.toArray n2 osl osl2 (by rw [List.size_toArray, List.size_toArray]; omega)) ⟨e, e2, ?_⟩
  have ea : its.toArray ++ its2.toArray = (its ++ its2).toArray := by simp
  rw [ea]
  exact ⟨.ref _, _, I.lnew (t' := s.toks) (r.append r2) (by rw [List.length_append]; omega), rfl, q _ I.fresh⟩
def rRepS (K : PySem.W.Frag) : R2 := fun x y H Q => ∃ l k xs, x = .ref l ∧ y = .int k ∧ SqL K H l xs ∧ -(2 ^ 63) ≤ k ∧ k < 2 ^ 63 ∧ xs.length * k.toNat ≤ sizeLine ∧
  ∀ p, H p = none → Q (.ref p) (upd H p (.lst (List.replicate k.toNat xs).flatten))
theorem op_repS : OpR X (binaryOp .Mult) (rRepS X.K) := by
  intro pins s σ H x y v u Q I rx ry h
  obtain ⟨l, k, xs, rfl, rfl, hH, h1, h2, hz, q⟩ := h
  cases rx
  obtain ⟨t, rfl⟩ := ry
  obtain ⟨its, r, ⟨⟨oc, od, odt, osl⟩, n, e, oc1, od1, odd⟩, z⟩ := I.list hH
  have hl := r.length
  simp only at oc1 od1 odd
  subst oc1 od1 odd
  have hlen : its.toArray.size * k.toNat ≤ sizeLine := by rw [List.size_toArray, ← hl]; exact hz
  have hcap : ¬ its.toArray.size * k.toNat > (2 ^ 63 - 1) / 8 := by
    have : (sizeLine : Nat) ≤ (2 ^ 63 - 1) / 8 := by decide
    omega
  have hfit : ¬ (!Builtin.List.listFitsIndex k) = true := by
    rw [fitsIndex_both h1 h2]
    exact Bool.false_ne_true
  have hlong : ¬ Builtin.List.listTooLong (its.toArray.size * k.toNat) = true := by
    rw [notLongL hlen]
    exact Bool.false_ne_true
  have hnew : List.foldl (fun x1 x2 => x1 ++ x2) #[] (List.replicate (if its.toArray.isEmpty = true then 0 else k.toNat) its.toArray) = (List.replicate k.toNat its).flatten.toArray := by
    have f0 : ∀ m : Nat, List.foldl (fun x1 x2 => x1 ++ x2) #[] (List.replicate m its.toArray) = (List.replicate m its).flatten.toArray := fun m => by
      have := foldl_rep its m []
      rw [List.nil_append] at this
      exact this
    rw [f0]
    cases its with
    | nil => simp
    | cons a r' => rw [if_neg (by simp)]
  refine wpAny_binaryOp_repeat_ref (T := "list") (U := "int") (by decide) ⟨_, e, rfl⟩ (fun s' => typeIs_int s' k t) noFill_list_mul F.fills_int_mul F.slot_int_rmul repeat_list F.slot_int_index.lookup
    (call_meets F.slot_int_rmul (typeIs_int s k t) F.entry_int_rmul (F.args_int_rmul_2 _ _) (rmul_any k t l its.toArray n osl)
      ⟨e, rfl, ⟨_, e, rfl⟩, call_meets F.slot_list_mul ⟨_, e, rfl⟩ F.entry_list_mul (F.args_list_mul_2 _ _) (list_mul_any l its.toArray n osl k t hfit hcap hlong) ⟨e, ?_⟩⟩)
  rw [hnew]
  exact ⟨.ref _, _, I.lnew (t' := s.toks) (r.rep k.toNat) (by rw [PyProof.Rows.lm_len_rep_flat, Nat.mul_comm]; exact hz), rfl, q _ I.fresh⟩
/-! ### operators -/
theorem mulOk_ok {i j : Int} (h : mulOk i j = true) : CMul i j := by
  unfold mulOk at h
  unfold CMul
  simpa using h
/-- what an operator gives, by values -/
def BinOk (G : Gx) (X : Cx) (op : Operator) (r : R2) : Prop := OpR X (binaryOp op) r ∧ ∀ {S H : Hp} {L : List Addr} {h : Cells} {x y : Pe.W} {v u : V} {p q : D} {z : Val} {Q : VK}, Ok G S L h H → WIs G S L x v → WIs G S L y u → x.rdu h = some p → y.rdu h = some q → binD op p q = some z → RV G L S H Q z h → r v u H Q
theorem snd_bin (ha : SndE G P cl X E σ a ma) (hb : SndE G P cl X E σ b mb) {op : Operator} {r : R2} (ho : BinOk G X op r) : SndE G P cl X E σ (.BinOp a op b pos) (.bin op ma mb) := fun ρ S L h H ok en Q hp =>
  WE.of (pe_op ho.1 peS peS) (two_w ha hb ok en (K := fun x y h => match x.rdu h, y.rdu h with
    | some p, some q => match binD op p q with
      | some v => .ok v h
      | none => .bad
    | _, _ => .bad) hp fun x y h2 v u L2 S2 H2 st ok2 en2 r1 r2 hp2 => by
    split at hp2
    · rename_i p q e1 e2
      split at hp2
      · rename_i z e3
        exact ho.2 ok2 r1 r2 e1 e2 e3 (RV.shift st hp2)
      · exact hp2.elim
    · exact hp2.elim)
theorem rv_now {S H : Hp} {L : List Addr} {h : Cells} {d : D} {v : V} {Q : VK} (ok : Ok G S L h H) (q : RV G L S H Q (vD d) h) (r : Rp G S d v) : Q v H := q L S H v Step.refl ok r
theorem rv_lst {S H : Hp} {L : List Addr} {h : Cells} {xs : List D} {ys : List V} {p : Addr} {Q : VK} (ok : Ok G S L h H) (q : RV G L S H Q (.new (.lst xs)) h) (r : Rps G S xs ys) (hp : H p = none) : Q (.ref p) (upd H p (.lst ys)) := by
  obtain ⟨hs, hl⟩ := ok.free hp
  exact q L S _ _ (Step.apart hp) (ok.apart hp) ⟨p, _, rfl, hp, hs, hl, upd_same, ⟨ys, rfl, r⟩, rfl⟩
theorem rdu_int {S H : Hp} {L : List Addr} {h : Cells} {x : Pe.W} {v : V} {i : Int} (ok : Ok G S L h H) (r : WIs G S L x v) (e : x.rdu h = some (.int i)) : v = .int i := (rdu_vw ok r e).1
theorem bin_sub : BinOk G X .Sub (rI0 fun i j => .int (i - j)) := ⟨op_sub, fun {S H L h x y v u p q z Q} ok r1 r2 e1 e2 e3 rv => by
  cases p <;> cases q <;> first | (cases e3; done) | skip
  rename_i i j
  cases e3
  exact ⟨i, j, rdu_int ok r1 e1, rdu_int ok r2 e2, rv_now ok rv rfl⟩⟩
theorem bin_add (hK : X.K = G.K) : BinOk G X .Add (fun x y H Q => rI0 (fun i j => .int (i + j)) x y H Q ∨ rCatS X.K x y H Q) := ⟨op_add.or op_catS, fun {S H L h x y v u p q z Q} ok r1 r2 e1 e2 e3 rv => by
  cases p <;> cases q <;> first | (cases e3; done) | skip
  · rename_i i j
    cases e3
    exact .inl ⟨i, j, rdu_int ok r1 e1, rdu_int ok r2 e2, rv_now ok rv rfl⟩
  · rename_i xs ys
    simp only [binD] at e3
    split at e3
    · cases e3
      obtain ⟨a, vs, rfl, ha, ra⟩ := (rdu_vw ok r1 e1).2 xs rfl
      obtain ⟨b, us, rfl, hb, rb⟩ := (rdu_vw ok r2 e2).2 ys rfl
      exact .inr ⟨a, b, vs, us, rfl, rfl, by rw [hK]; exact ha, by rw [hK]; exact hb, by rw [ra.len, rb.len]; assumption, fun p hp => rv_lst ok rv (ra.app rb) hp⟩
    · cases e3⟩
theorem bin_mod : BinOk G X .Mod (rI (fun _ j => 0 < j) fun i j => .int (i % j)) := ⟨op_mod, fun {S H L h x y v u p q z Q} ok r1 r2 e1 e2 e3 rv => by
  cases p <;> cases q <;> first | (cases e3; done) | skip
  rename_i i j
  simp only [binD] at e3
  split at e3
  · cases e3
    exact ⟨i, j, rdu_int ok r1 e1, rdu_int ok r2 e2, by assumption, rv_now ok rv rfl⟩
  · cases e3⟩
theorem bin_fdiv : BinOk G X .FloorDiv (rI CDiv fun i j => .int (i / j)) := ⟨op_fdiv, fun {S H L h x y v u p q z Q} ok r1 r2 e1 e2 e3 rv => by
  cases p <;> cases q <;> first | (cases e3; done) | skip
  rename_i i j
  simp only [binD] at e3
  split at e3
  · cases e3
    exact ⟨i, j, rdu_int ok r1 e1, rdu_int ok r2 e2, by assumption, rv_now ok rv rfl⟩
  · cases e3⟩
theorem bin_pow : BinOk G X .Pow (rI CPow fun i j => .int (i ^ j.toNat)) := ⟨op_pow, fun {S H L h x y v u p q z Q} ok r1 r2 e1 e2 e3 rv => by
  cases p <;> cases q <;> first | (cases e3; done) | skip
  rename_i i j
  simp only [binD] at e3
  split at e3
  · cases e3
    exact ⟨i, j, rdu_int ok r1 e1, rdu_int ok r2 e2, by assumption, rv_now ok rv rfl⟩
  · cases e3⟩
theorem rps_rep {S : Hp} {xs : List D} {ys : List V} (r : Rps G S xs ys) : ∀ n : Nat, Rps G S (List.replicate n xs).flatten (List.replicate n ys).flatten
  | 0 => rfl
  | n + 1 => by
    rw [List.replicate_succ, List.flatten_cons, List.replicate_succ, List.flatten_cons]
    exact r.app (rps_rep r n)
theorem bin_mul (hK : X.K = G.K) : BinOk G X .Mult (fun x y H Q => rI CMul (fun i j => .int (i * j)) x y H Q ∨ rRepS X.K x y H Q) := ⟨op_mul.or op_repS, fun {S H L h x y v u p q z Q} ok r1 r2 e1 e2 e3 rv => by
  cases p <;> cases q <;> first | (cases e3; done) | skip
  · rename_i i j
    simp only [binD] at e3
    split at e3
    · cases e3
      exact .inl ⟨i, j, rdu_int ok r1 e1, rdu_int ok r2 e2, mulOk_ok (by assumption), rv_now ok rv rfl⟩
    · cases e3
  · rename_i xs j
    simp only [binD] at e3
    split at e3
    · cases e3
      rename_i hc
      obtain ⟨a, vs, rfl, ha, ra⟩ := (rdu_vw ok r1 e1).2 xs rfl
      exact .inr ⟨a, j, vs, rfl, rdu_int ok r2 e2, by rw [hK]; exact ha, hc.1, hc.2.1, by rw [ra.len]; exact hc.2.2, fun p hp => rv_lst ok rv (rps_rep ra _) hp⟩
    · cases e3⟩
theorem bin_any (hK : X.K = G.K) (ha : SndE G P cl X E σ a ma) (hb : SndE G P cl X E σ b mb) (op : Operator) : SndE G P cl X E σ (.BinOp a op b pos) (.bin op ma mb) := by
  cases op
  case Add => exact snd_bin ha hb (bin_add hK)
  case Sub => exact snd_bin ha hb bin_sub
  case Mult => exact snd_bin ha hb (bin_mul hK)
  case Mod => exact snd_bin ha hb bin_mod
  case Pow => exact snd_bin ha hb bin_pow
  case FloorDiv => exact snd_bin ha hb bin_fdiv
  all_goals exact snd_bin (r := fun _ _ _ _ => False) ha hb ⟨fun _ _ _ _ _ _ _ _ _ _ _ _ z => z.elim, fun {S H L h x y v u p q z Q} ok r1 r2 e1 e2 e3 rv => by cases p <;> cases q <;> cases e3⟩
theorem snd_neg (ha : SndE G P cl X E σ a ma) : SndE G P cl X E σ (.UnaryOp .USub a pos) (.neg ma) := fun ρ S L h H ok en Q hp =>
  WE.of (pe_un un_neg peS) (one_d ha ok en (K := fun x h => match x with
    | .int i => .ok (vI (-i)) h
    | _ => .bad) hp fun x h1 v L1 S1 H1 st ok1 en1 r hp1 => by
    split at hp1
    · rename_i i
      exact ⟨i, r, rv_now ok1 (RV.shift st hp1) rfl⟩
    · exact hp1.elim)
/-! ### tests -/
/-- e's term, as a test -/
def SndT (G : Gx) (P : Prog) (cl : Cl) (X : Cx) (E : XK) (σ : L2.St) (e : Expr) (m : M) : Prop := ∀ ρ S L h H, Ok G S L h H → EnvOk G S L ρ σ → ∀ Q : Bool → Hp → Prop, Post G E L S H (evalE P cl ρ m h).toB (RB G L S H Q) → WT X e σ H Q
def SndW (G : Gx) (P : Prog) (cl : Cl) (X : Cx) (E : XK) (σ : L2.St) (e : Expr) (m : M) : Prop := ∀ ρ S L h H, Ok G S L h H → EnvOk G S L ρ σ → ∀ Q : Bool → Hp → Prop, Post G E L S H (evalE P cl ρ m h).toB (RB G L S H Q) → WW X e σ H Q
section
variable {ρ : Pe.Env} {σ : L2.St} {S H : Hp} {L : List Addr} {h : Cells} {β : Type} {R : β → Cells → Prop}
/-- a bool -/
theorem one_b (ha : SndE G P cl X E σ a ma) (ok : Ok G S L h H) (en : EnvOk G S L ρ σ) {K : Bool → Cells → Out β} {Q : VK}
    (hp : Post G E L S H ((evalE P cl ρ ma h).toB.bind K) R)
    (hk : ∀ x h1 L1 S1 H1, Step L S H L1 S1 H1 → Ok G S1 L1 h1 H1 → EnvOk G S1 L1 ρ σ → Post G E L1 S1 H1 (K x h1) R → Q (.bl x) H1) : WE X a σ H Q := by
  refine ha ρ S L h H ok en Q ?_
  have hp := hp.bind
  generalize evalE P cl ρ ma h = o at hp
  cases o with
  | exc x h' => exact hp
  | bad => exact hp
  | ok v h' =>
    intro L1 S1 H1 vv st ok1 hv
    have hp' : Post G E L S H (match v with | .w (.d (.bl b)) => Out.ok b h' | _ => Out.bad) fun a h' => Post G E L S H (K a h') R := hp
    split at hp'
    · rename_i b
      rw [show vv = .bl b from hv]
      exact hk b h' L1 S1 H1 st ok1 (en.step st) (hp'.sh st)
    · exact hp'.elim
theorem one_t (ha : SndT G P cl X E σ a ma) (ok : Ok G S L h H) (en : EnvOk G S L ρ σ) {K : Bool → Cells → Out β} {Q : Bool → Hp → Prop}
    (hp : Post G E L S H ((evalE P cl ρ ma h).toB.bind K) R)
    (hk : ∀ x h1 L1 S1 H1, Step L S H L1 S1 H1 → Ok G S1 L1 h1 H1 → EnvOk G S1 L1 ρ σ → Post G E L1 S1 H1 (K x h1) R → Q x H1) : WT X a σ H Q :=
  ha ρ S L h H ok en Q (hp.bind.imp fun x h1 p L1 S1 H1 st ok1 => hk x h1 L1 S1 H1 st ok1 (en.step st) (p.sh st))
end
theorem snd_tv (ha : SndE G P cl X E σ a ma) (he : ∀ whole, isTrue a X.env whole = (do let v ← whole; standAt a.pos; holding [v] (truthy v))) : SndT G P cl X E σ a ma := fun ρ S L h H ok en Q hp => by
  refine WT.of (pt_val peS he) (ha ρ S L h H ok en _ ?_)
  generalize evalE P cl ρ ma h = o at hp
  cases o with
  | exc x h' => exact hp
  | bad => exact hp
  | ok v h' =>
    intro L1 S1 H1 vv st ok1 hv
    have hp' : Post G E L S H (match v with | .w (.d (.bl b)) => Out.ok b h' | _ => Out.bad) (RB G L S H Q) := hp
    split at hp'
    · rename_i b
      exact ⟨b, hv, hp' L1 S1 H1 st ok1⟩
    · exact hp'.elim
theorem wt_of_ww {σ : L2.St} {H : Hp} {Q : Bool → Hp → Prop} (h : WW X e σ H Q) : WT X e σ H Q := fun pins s I => h _ pins s I
theorem toB_bind {α : Type} (o : Out α) (f : α → Cells → Out Val) : (o.bind f).toB = o.bind fun a h => (f a h).toB := by cases o <;> rfl
theorem rb_now {S H : Hp} {L : List Addr} {h : Cells} {b : Bool} {Q : Bool → Hp → Prop} (ok : Ok G S L h H) (q : RB G L S H Q b h) : Q b H := q L S H Step.refl ok
theorem RB.shift {S H S1 H1 : Hp} {L L1 : List Addr} {Q : Bool → Hp → Prop} (st : Step L S H L1 S1 H1) {b : Bool} {h : Cells} (r : RB G L S H Q b h) : RB G L1 S1 H1 Q b h := fun L' S' H' st' ok => r L' S' H' (st.trans st') ok
theorem snd_not (ha : SndE G P cl X E σ a ma) : SndE G P cl X E σ (.UnaryOp .Not a pos) (.not ma) := fun ρ S L h H ok en Q hp =>
  WE.of (pe_not peS) (one_b ha ok en (K := fun b h => .ok (vB (!b)) h) hp fun x h1 L1 S1 H1 st ok1 en1 hp1 => ⟨x, rfl, rv_now ok1 (RV.shift st hp1) rfl⟩)
theorem snd_notT (ha : SndT G P cl X E σ a ma) : SndT G P cl X E σ (.UnaryOp .Not a pos) (.not ma) := fun ρ S L h H ok en Q hp => by
  refine WT.of (pt_not ptS) (one_t ha ok en (K := fun b h => .ok (!b) h) (R := RB G L S H Q) ?_ fun x h1 L1 S1 H1 st ok1 en1 hp1 => rb_now ok1 (RB.shift st hp1))
  have e : (evalE P cl ρ (.not ma) h).toB = (evalE P cl ρ ma h).toB.bind fun b h => .ok (!b) h := toB_bind _ _
  rw [e] at hp
  exact hp
theorem snd_and {rest : List Expr} (ha : SndE G P cl X E σ a ma) (hb : SndE G P cl X E σ (.BoolOp .And (b :: rest) pos) mb) : SndE G P cl X E σ (.BoolOp .And (a :: b :: rest) pos) (.and ma mb) := fun ρ S L h H ok en Q hp =>
  WE.of (pe_and peS peS) (one_b ha ok en (K := fun x h => if x then evalE P cl ρ mb h else .ok (vB false) h) hp fun x h1 L1 S1 H1 st ok1 en1 hp1 => ⟨x, rfl, by
    split
    · rw [if_pos (by assumption)] at hp1
      exact hb ρ S1 L1 h1 H1 ok1 en1 Q (hp1.imp fun _ _ r => RV.shift st r)
    · rw [if_neg (by assumption)] at hp1
      exact rv_now ok1 (RV.shift st hp1) rfl⟩)
theorem snd_or {rest : List Expr} (ha : SndE G P cl X E σ a ma) (hb : SndE G P cl X E σ (.BoolOp .Or (b :: rest) pos) mb) : SndE G P cl X E σ (.BoolOp .Or (a :: b :: rest) pos) (.or ma mb) := fun ρ S L h H ok en Q hp =>
  WE.of (pe_or peS peS) (one_b ha ok en (K := fun x h => if x then .ok (vB true) h else evalE P cl ρ mb h) hp fun x h1 L1 S1 H1 st ok1 en1 hp1 => ⟨x, rfl, by
    split
    · rw [if_pos (by assumption)] at hp1
      exact rv_now ok1 (RV.shift st hp1) rfl
    · rw [if_neg (by assumption)] at hp1
      exact hb ρ S1 L1 h1 H1 ok1 en1 Q (hp1.imp fun _ _ r => RV.shift st r)⟩)
theorem snd_one {op : BoolOp} (ha : SndE G P cl X E σ a ma) : SndE G P cl X E σ (.BoolOp op [a] pos) ma := fun ρ S L h H ok en Q hp => WE.of (pe_one peS) (ha ρ S L h H ok en Q hp)
theorem snd_and1 (ha : SndT G P cl X E σ a ma) : SndW G P cl X E σ (.BoolOp .And [a] pos) ma := fun ρ S L h H ok en Q hp => WW.of (pw_and1 ptS) (ha ρ S L h H ok en Q hp)
theorem snd_or1 (ha : SndT G P cl X E σ a ma) : SndW G P cl X E σ (.BoolOp .Or [a] pos) ma := fun ρ S L h H ok en Q hp => WW.of (pw_or1 ptS) (ha ρ S L h H ok en Q hp)
theorem snd_andW {rest : List Expr} (ha : SndT G P cl X E σ a ma) (hb : SndW G P cl X E σ (.BoolOp .And (b :: rest) pos) mb) : SndW G P cl X E σ (.BoolOp .And (a :: b :: rest) pos) (.and ma mb) := fun ρ S L h H ok en Q hp => by
  refine WW.of (pw_and ptS pwS) (one_t ha ok en (K := fun x h => (if x then evalE P cl ρ mb h else .ok (vB false) h).toB) (R := RB G L S H Q) ?_ fun x h1 L1 S1 H1 st ok1 en1 hp1 => ?_)
  · have e : (evalE P cl ρ (.and ma mb) h).toB = _ := toB_bind _ _
    rw [e] at hp
    exact hp
  · split
    · rw [if_pos (by assumption)] at hp1
      exact hb ρ S1 L1 h1 H1 ok1 en1 Q (hp1.imp fun _ _ r => RB.shift st r)
    · rw [if_neg (by assumption)] at hp1
      exact rb_now ok1 (RB.shift st hp1)
theorem snd_orW {rest : List Expr} (ha : SndT G P cl X E σ a ma) (hb : SndW G P cl X E σ (.BoolOp .Or (b :: rest) pos) mb) : SndW G P cl X E σ (.BoolOp .Or (a :: b :: rest) pos) (.or ma mb) := fun ρ S L h H ok en Q hp => by
  refine WW.of (pw_or ptS pwS) (one_t ha ok en (K := fun x h => (if x then .ok (vB true) h else evalE P cl ρ mb h).toB) (R := RB G L S H Q) ?_ fun x h1 L1 S1 H1 st ok1 en1 hp1 => ?_)
  · have e : (evalE P cl ρ (.or ma mb) h).toB = _ := toB_bind _ _
    rw [e] at hp
    exact hp
  · split
    · rw [if_pos (by assumption)] at hp1
      exact rb_now ok1 (RB.shift st hp1)
    · rw [if_neg (by assumption)] at hp1
      exact hb ρ S1 L1 h1 H1 ok1 en1 Q (hp1.imp fun _ _ r => RB.shift st r)
theorem snd_ife (hc : SndT G P cl X E σ c mc) (ha : SndE G P cl X E σ a ma) (hb : SndE G P cl X E σ b mb) : SndE G P cl X E σ (.IfExp c a b pos) (.ife mc ma mb) := fun ρ S L h H ok en Q hp =>
  WE.of (pe_ifExp ptS peS peS) (one_t hc ok en (K := fun x h => if x then evalE P cl ρ ma h else evalE P cl ρ mb h) hp fun x h1 L1 S1 H1 st ok1 en1 hp1 => by
    split
    · rw [if_pos (by assumption)] at hp1
      exact ha ρ S1 L1 h1 H1 ok1 en1 Q (hp1.imp fun _ _ r => RV.shift st r)
    · rw [if_neg (by assumption)] at hp1
      exact hb ρ S1 L1 h1 H1 ok1 en1 Q (hp1.imp fun _ _ r => RV.shift st r))
theorem wt_ife {σ : L2.St} {H : Hp} {Q : Bool → Hp → Prop} (h : WT X c σ H fun x H1 => if x = true then WT X a σ H1 Q else WT X b σ H1 Q) : WT X (.IfExp c a b pos) σ H Q := fun pins s I => by
  show wpAny _ _ (isTrue c X.env (eval c X.env) >>= fun x => if x = true then isTrue a X.env (eval a X.env) else isTrue b X.env (eval b X.env)) _ _ s
  refine wpAny_bind (thn (h pins s I) fun x s1 ⟨H1, I1, q⟩ => ?_)
  cases x with
  | true => exact q pins s1 I1
  | false => exact q pins s1 I1
theorem snd_ifeT (hc : SndT G P cl X E σ c mc) (ha : SndT G P cl X E σ a ma) (hb : SndT G P cl X E σ b mb) : SndT G P cl X E σ (.IfExp c a b pos) (.ife mc ma mb) := fun ρ S L h H ok en Q hp => by
  refine wt_ife (one_t hc ok en (K := fun x h => (if x then evalE P cl ρ ma h else evalE P cl ρ mb h).toB) (R := RB G L S H Q) ?_ fun x h1 L1 S1 H1 st ok1 en1 hp1 => ?_)
  · have e : (evalE P cl ρ (.ife mc ma mb) h).toB = _ := toB_bind _ _
    rw [e] at hp
    exact hp
  · split
    · rw [if_pos (by assumption)] at hp1
      exact ha ρ S1 L1 h1 H1 ok1 en1 Q (hp1.imp fun _ _ r => RB.shift st r)
    · rw [if_neg (by assumption)] at hp1
      exact hb ρ S1 L1 h1 H1 ok1 en1 Q (hp1.imp fun _ _ r => RB.shift st r)
end
end Pe
set_option maxHeartbeats 4000000
namespace Pe
open PySem PySem.Spec PyProof.Rows L2
/-! ### what stands for the defs and classes -/
def WIss (G : Gx) (S : Hp) (L : List Addr) : List Pe.W → List V → Prop
  | [], vs => vs = []
  | w :: r, vs => ∃ v q, vs = v :: q ∧ WIs G S L w v ∧ WIss G S L r q
theorem WIss.mono {G : Gx} {S S' : Hp} {L L' : List Addr} (e : Ext S S') (p : Pre L L') : ∀ {ws : List Pe.W} {vs : List V}, WIss G S L ws vs → WIss G S' L' ws vs
  | [], _, h => h
  | w :: r, vs, h => by
    obtain ⟨v, q, h1, h2, h3⟩ : ∃ v q, vs = v :: q ∧ WIs G S L w v ∧ WIss G S L r q := h
    exact ⟨v, q, h1, h2.mono e p, WIss.mono e p h3⟩
theorem WIss.len {G : Gx} {S : Hp} {L : List Addr} : ∀ {ws : List Pe.W} {vs : List V}, WIss G S L ws vs → vs.length = ws.length
  | [], vs, h => by rw [show vs = [] from h]; rfl
  | w :: r, vs, h => by
    obtain ⟨v, q, h1, h2, h3⟩ : ∃ v q, vs = v :: q ∧ WIs G S L w v ∧ WIss G S L r q := h
    rw [h1, List.length_cons, List.length_cons, WIss.len h3]
/-- what a def promises -/
def spOf (G : Gx) (cl : Cl) (c f : Str) : Sp := fun vs H Q E => ∃ S L h ws, Ok G S L h H ∧ WIss G S L ws vs ∧ Post G E L S H (cl c f ws h) (RV G L S H Q)
abbrev GFn (G : Gx) (k : Nat) (f : Addr) (sp : Sp) : Prop := FnR G.P G.w G.K G.mg G.base (L2.CX G.P G.w) k f sp
structure ClsF (G : Gx) (P : Prog) (cl : Cl) (k : Nat) (c : Str) (d : CDef) : Prop where
  ct : ClsT G.K (clsAt G.mg c)
  mg : G.mg c = some (.ref (clsAt G.mg c))
  two : ∀ c' d', P.cls c' = some d' → PySem.W.kitOne G.K (.ref (clsAt G.mg c')) (.ref (clsAt G.mg c)) = some (decide (c' = c)) ∧ PySem.W.notFirst G.K (clsAt G.mg c) (.ref (clsAt G.mg c')) = true
  init : P.isFn c "__init__" = true → ∃ f, Mk G.K (clsAt G.mg c) f ∧ GFn G k f (spOf G cl c "__init__")
  meth : ∀ m, P.isFn c m = true → m ∉ d.props → ∃ f, Meth G.K (clsAt G.mg c) m f ∧ GFn G k f (spOf G cl c m)
  spec : ∀ m, P.isFn c m = true → m = "__eq__" ∨ m = "__len__" → ∃ f, OwnM G.K (clsAt G.mg c) m f ∧ GFn G k f (spOf G cl c m)
  ne : P.isFn c "__eq__" = true → OwnNe G.K (clsAt G.mg c)
  prop : ∀ f ∈ d.props, P.isFn c f = true → ∃ p g fd ps, PropOf G.K (clsAt G.mg c) f p g ∧ Binds G.K fd ps [] ∧ FnOk G.P G.w G.K G.mg G.base (L2.CX G.P G.w) k g fd ps (spOf G cl c f)
  noat : ∀ f ∈ d.fields, NoAttr G.K (clsAt G.mg c) f
  kb : ∀ t ∈ sevenT, PySem.W.kitOne G.K (.ref (clsAt G.mg c)) (.type t) = some false
/-- an exception class of one's own, without an __init__ -/
structure XcF (G : Gx) (x : Str) : Prop where
  ex : ∃ (B newId initId : String) (bmB : List Value), PySem.ExcBaseFacts B newId initId bmB ∧ PySem.W.excIn G.K (clsAt G.mg x) bmB newId = true
  mg : G.mg x = some (.ref (clsAt G.mg x))
  kp : PySem.W.keepIn G.K (.ref (clsAt G.mg x)) = true
  sb : PySem.W.subIn G.K (.ref (clsAt G.mg x)) (.type "BaseException") = some true
  ty : PySem.W.typeIn G.K (.ref (clsAt G.mg x)) = some (.type "type")
/-- how a class takes keywords -/
def arrV (dv : D → V) (vs zs : List V) : List Src → List V
  | [] => []
  | .pos i :: r => vs.getD i .non :: arrV dv vs zs r
  | .kw i :: r => zs.getD i .non :: arrV dv vs zs r
  | .dft d :: r => dv d :: arrV dv vs zs r
def D.v0 : D → V
  | .bl b => .bl b
  | .int i => .int i
  | .str s => .str s
  | _ => .non
def D.at0 : D → Bool
  | .non => true
  | .bl _ => true
  | .int _ => true
  | .str _ => true
  | _ => false
def Src.plain : Src → Bool
  | .dft d => d.at0
  | _ => true
def KwF (G : Gx) (P : Prog) (cl : Cl) (k : Nat) (c : Str) (n : Nat) (ks : List Str) (arr : List Src) : Prop := ∃ (f : Addr) (fd : FuncData) (ps : List Str) (g : List Value → List Value → List Value) (gV : List V → List V → List V), Mk G.K (clsAt G.mg c) f ∧ FnOk G.P G.w G.K G.mg G.base (L2.CX G.P G.w) k f fd ps (spOf G cl c "__init__") ∧ KBn G.K fd ps (n + 1) ks g gV ∧ (∀ v vs zs, vs.length = n → zs.length = ks.length → gV (v :: vs) zs = v :: arrV D.v0 vs zs arr) ∧ arr.all Src.plain = true
structure Cfs (G : Gx) (P : Prog) (cl : Cl) (k : Nat) : Prop extends PF G P where
  fn : ∀ x, P.isFn "" x = true → ∃ f, G.mg x = some (.ref f) ∧ PySem.W.keepIn G.K (.ref f) = true ∧ GFn G k f (spOf G cl "" x)
  cls : ∀ c d, P.cls c = some d → ClsF G P cl k c d
  noisi : G.mg "isinstance" = none
  kw : ∀ c n ks arr, P.kwa c n ks = some arr → (P.cls c).isSome = true → KwF G P cl k c n ks arr
  xc : ∀ x d, P.exc x = some d → d.fields = [] → XcF G x
  exm : ∀ c d k d', P.exc c = some d → P.exc k = some d' → G.mg c = some (.ref (clsAt G.mg c)) ∧ PySem.W.exmOne G.K (.ref (clsAt G.mg k)) (.ref (clsAt G.mg c)) = some (catches P c k)
section
variable {G : Gx} {P : Prog} {cl : Cl} {X : Cx} {E : XK} {σ : L2.St} {a b c e : Expr} {ma mb mc : M} {pos : Pos} {N : List Str} {sc : Scope} {k : Nat}
theorem Good.fnr (g : Good G N sc k X) {f : Addr} {j : Nat} {sp : Sp} (F : GFn G j f sp) : FnR X.prog X.w X.K X.mg X.base (L2.CX X.prog X.w) j f sp := by
  rw [g.P, g.w, g.K, g.mg, g.base]; exact F
/-! ### comparisons -/
theorem opr_ex {f : Value → Value → Sem Value} {ι : Type} {r : ι → R2} (h : ∀ i, OpRs X σ f (r i)) : OpRs X σ f (fun x y H Q => ∃ i, r i x y H Q) := by
  intro pins s H x y v u Q I rx ry ⟨i, q⟩
  exact h i pins s H x y v u Q I rx ry q
theorem opr_if {f : Value → Value → Sem Value} {p : Prop} {r : R2} (h : p → OpRs X σ f r) : OpRs X σ f (fun x y H Q => p ∧ r x y H Q) := by
  intro pins s H x y v u Q I rx ry ⟨hp, q⟩
  exact h hp pins s H x y v u Q I rx ry q
theorem OpRs.or {f : Value → Value → Sem Value} {r r' : R2} (h : OpRs X σ f r) (h' : OpRs X σ f r') : OpRs X σ f (fun x y H Q => r x y H Q ∨ r' x y H Q) := by
  intro pins s H x y v u Q I rx ry q
  rcases q with q | q
  · exact h pins s H x y v u Q I rx ry q
  · exact h' pins s H x y v u Q I rx ry q
theorem we_cmp {op : CmpOp} {r : R2} {H : Hp} {Q : VK} (ho : OpRs X σ (compareOp op) r) (hm : behindInMarks op b = false) (h : WE X a σ H fun x H1 => WE X b σ H1 fun y H2 => r x y H2 Q) : WE X (.Compare a [op] [b] pos) σ H Q := fun pins s I =>
  wpAny_Compare1 (thn (h pins s I) fun v s1 ⟨x, H1, I1, r1, q1⟩ => thn (q1 pins s1 I1) fun u s2 ⟨y, H2, I2, r2, q2⟩ => ho pins s2 H2 x y v u Q I2 r1 r2 q2) hm
theorem wt_cmp {op : CmpOp} {r : R2} {H : Hp} {Q : Bool → Hp → Prop} (ho : OpRs X σ (compareOp op) r) (hm : behindInMarks op b = false) (h : WE X a σ H fun x H1 => WE X b σ H1 fun y H2 => r x y H2 fun z H' => ∃ k, z = .bl k ∧ Q k H') : WT X (.Compare a [op] [b] pos) σ H Q := fun pins s I => by
  refine wpAny_isTrue_Compare1 (thn (h pins s I) fun v s1 ⟨x, H1, I1, r1, q1⟩ => thn (q1 pins s1 I1) fun u s2 ⟨y, H2, I2, r2, q2⟩ => thn (ho pins s2 H2 x y v u _ I2 r1 r2 q2) fun c s3 ⟨z, H3, I3, r3, k, e, q3⟩ => ?_) hm
  subst e
  cases r3
  exact wpAny_truthy_bool ⟨H3, I3, q3⟩
/-- what a comparison gives, by values -/
def CmpOk (G : Gx) (P : Prog) (cl : Cl) (X : Cx) (E : XK) (σ : L2.St) (op : CmpOp) : Prop := ∃ r : R2, OpRs X σ (compareOp op) r ∧ ∀ {S H : Hp} {L : List Addr} {h : Cells} {x y : Pe.W} {v u : V} {Q : VK}, Ok G S L h H → WIs G S L x v → WIs G S L y u →
  Post G E L S H (cmpM P cl op x y h) (fun b h => RV G L S H Q (vB b) h) → r v u H Q
theorem snd_cmp {op : CmpOp} (ha : SndE G P cl X E σ a ma) (hb : SndE G P cl X E σ b mb) (ho : CmpOk G P cl X E σ op) (hm : behindInMarks op b = false) : SndE G P cl X E σ (.Compare a [op] [b] pos) (.cmp op ma mb) := fun ρ S L h H ok en Q hp => by
  obtain ⟨r, h1, h2⟩ := ho
  exact we_cmp h1 hm (two_w ha hb ok en (K := fun x y h => (cmpM P cl op x y h).bind fun b h => .ok (vB b) h) hp fun x y h3 v u L2 S2 H2 st ok2 en2 r1 r2 hp2 =>
    h2 ok2 r1 r2 (hp2.bind.imp fun b h r => RV.shift st r))
theorem snd_cmpT {op : CmpOp} (ha : SndE G P cl X E σ a ma) (hb : SndE G P cl X E σ b mb) (ho : CmpOk G P cl X E σ op) (hm : behindInMarks op b = false) : SndT G P cl X E σ (.Compare a [op] [b] pos) (.cmp op ma mb) := fun ρ S L h H ok en Q hp => by
  obtain ⟨r, h1, h2⟩ := ho
  have e : (evalE P cl ρ (.cmp op ma mb) h).toB = (evalE P cl ρ ma h).toW.bind fun x h => (evalE P cl ρ mb h).toW.bind fun y h => cmpM P cl op x y h := by
    refine (toB_bind _ _).trans (congrArg _ (funext fun x => funext fun h => (toB_bind _ _).trans (congrArg _ (funext fun y => funext fun h => (toB_bind _ _).trans ?_))))
    cases cmpM P cl op x y h <;> rfl
  rw [e] at hp
  exact wt_cmp h1 hm (two_w ha hb ok en hp fun x y h3 v u L2 S2 H2 st ok2 en2 r1 r2 hp2 =>
    h2 ok2 r1 r2 (hp2.imp fun b h r L' S' H' vv st' ok' hv => ⟨b, hv, r L' S' H' (st.trans st') ok'⟩))
/-! the operators of ints -/
def rCmpI (op : CmpOp) : R2 := fun x y H Q => ∃ i j b, x = .int i ∧ y = .int j ∧ cmpI op i j = some b ∧ Q (.bl b) H
theorem op_cmpI (op : CmpOp) : OpR X (compareOp op) (rCmpI op) := by
  intro pins s σ H x y v u Q I rx ry ⟨i, j, b, h1, h2, h3, q⟩
  cases op <;> first
    | (cases h3; exact op_lt pins s σ H x y v u Q I rx ry ⟨i, j, h1, h2, q⟩)
    | (cases h3; exact op_le pins s σ H x y v u Q I rx ry ⟨i, j, h1, h2, q⟩)
    | (cases h3; exact op_gt pins s σ H x y v u Q I rx ry ⟨i, j, h1, h2, q⟩)
    | (cases h3; exact op_ge pins s σ H x y v u Q I rx ry ⟨i, j, h1, h2, q⟩)
    | (cases h3; done)
theorem rb_cmp {S H : Hp} {L : List Addr} {h : Cells} {b : Bool} {Q : VK} (ok : Ok G S L h H) (q : RV G L S H Q (vB b) h) : Q (.bl b) H := q L S H _ Step.refl ok rfl
/-- plain comparisons: what cmpD gives -/
def CmpD (G : Gx) (X : Cx) (op : CmpOp) : Prop := ∃ r : R2, OpR X (compareOp op) r ∧ ∀ {S H : Hp} {L : List Addr} {h : Cells} {x y : Pe.W} {v u : V} {p q : D} {b : Bool} {Q : VK}, Ok G S L h H → WIs G S L x v → WIs G S L y u → x.rd h = some p → y.rd h = some q → cmpD op p q = some b → Q (.bl b) H → r v u H Q
theorem cmp_of (op : CmpOp) (h1 : op ≠ .Eq) (h2 : op ≠ .NotEq) (d : CmpD G X op) : CmpOk G P cl X E σ op := by
  obtain ⟨r, o, k⟩ := d
  refine ⟨r, .of o, fun {S H L h x y v u Q} ok r1 r2 hp => ?_⟩
  have hp' : Post G E L S H (match x.rd h, y.rd h with | some a, some b => (match cmpD op a b with | some r => Out.ok r h | none => .bad) | _, _ => .bad) (fun b h => RV G L S H Q (vB b) h) := by
    cases op <;> first | exact hp | exact absurd rfl h1 | exact absurd rfl h2
  split at hp'
  · rename_i p q e1 e2
    split at hp'
    · rename_i b e3
      exact k ok r1 r2 e1 e2 e3 (rb_cmp ok hp')
    · exact hp'.elim
  · exact hp'.elim
theorem rd_int {S H : Hp} {L : List Addr} {h : Cells} {x : Pe.W} {v : V} {i : Int} (ok : Ok G S L h H) (r : WIs G S L x v) (e : x.rd h = some (.int i)) : v = .int i := rd_vw ok r e
theorem vw_non {S H : Hp} {x : D} {v : V} (h : Vw G S H x v) : decide (v = .non) = isNon x := by
  cases x with
  | non => rw [show v = .non from h]; rfl
  | bl b => rw [show v = .bl b from h]; rfl
  | int b => rw [show v = .int b from h]; rfl
  | str b => rw [show v = .str b from h]; rfl
  | tup _ => obtain ⟨a, ys, rfl, _⟩ := h; rfl
  | lst _ => obtain ⟨a, ys, rfl, _⟩ := h; rfl
  | dic _ => obtain ⟨a, ys, rfl, _⟩ := h; rfl
  | ins _ _ => obtain ⟨a, ys, _, rfl, _⟩ := h; rfl
  | cls _ => rw [show v = .ref _ from h]; rfl
theorem op_isA : OpR X (compareOp .Is) (fun x y H Q => (y = .non ∧ Q (.bl (decide (x = .non))) H) ∨ rIsB x y H Q) := fun pins s σ H x y v u Q I rx ry h => h.elim (op_isN pins s σ H x y v u Q I rx ry) (op_isBl pins s σ H x y v u Q I rx ry)
theorem op_notA : OpR X (compareOp .IsNot) (fun x y H Q => (y = .non ∧ Q (.bl (!decide (x = .non))) H) ∨ rNotB x y H Q) := fun pins s σ H x y v u Q I rx ry h => h.elim (op_notN pins s σ H x y v u Q I rx ry) (op_notBl pins s σ H x y v u Q I rx ry)
theorem cmpd_is : CmpD G X .Is := ⟨_, op_isA, fun {S H L h x y v u p q b Q} ok r1 r2 e1 e2 e3 hq => by
  cases q <;> first | (cases p <;> cases e3; done) | skip
  · have e4 : b = isNon p := by cases p <;> (cases e3; rfl)
    subst e4
    refine .inl ⟨rd_vw ok r2 e2, ?_⟩
    rw [vw_non (rd_vw ok r1 e1)]; exact hq
  · cases p <;> first | (cases e3; done) | skip
    cases e3
    exact .inr ⟨_, _, rd_vw ok r1 e1, rd_vw ok r2 e2, hq⟩⟩
theorem cmpd_isNot : CmpD G X .IsNot := ⟨_, op_notA, fun {S H L h x y v u p q b Q} ok r1 r2 e1 e2 e3 hq => by
  cases q <;> first | (cases p <;> cases e3; done) | skip
  · have e4 : b = !isNon p := by cases p <;> (cases e3; rfl)
    subst e4
    refine .inl ⟨rd_vw ok r2 e2, ?_⟩
    rw [vw_non (rd_vw ok r1 e1)]; exact hq
  · cases p <;> first | (cases e3; done) | skip
    cases e3
    exact .inr ⟨_, _, rd_vw ok r1 e1, rd_vw ok r2 e2, hq⟩⟩
theorem cmpd_int {op : CmpOp} (h : ∀ p q, cmpD op p q = match p, q with | .int i, .int j => cmpI op i j | _, _ => none) : CmpD G X op := ⟨_, op_cmpI op, fun {S H L hh x y v u p q b Q} ok r1 r2 e1 e2 e3 hq => by
  rw [h] at e3
  split at e3
  · exact ⟨_, _, b, rd_int ok r1 e1, rd_int ok r2 e2, e3, hq⟩
  · cases e3⟩
/-- in: lists and tuples of plain data, dicts -/
def rInD (K : PySem.W.Frag) (neg : Bool) : R2 := fun x y H Q => ∃ d ds, Dp K H x d ∧ (Dp K H y (.list ds) ∨ Dp K H y (.tuple ds)) ∧ d.plain = true ∧ PyData.plainAll ds = true ∧ d.depth ≤ 60 ∧ Q (.bl ((ds.any fun z => PyData.eqv z d) != neg)) H
theorem op_inPl (hu : X.A.units + 65 < cLine) : OpR X (compareOp .In) (rInD X.K false) := by
  intro pins s σ H x y v u Q I rx ry ⟨d, ds, h1, h2, h3, h4, h5, q⟩
  obtain ⟨as, r1⟩ := Dp.reads I _ _ _ h1 rx
  have e : ((ds.any fun z => PyData.eqv z d) != false) = ds.any fun z => PyData.eqv z d := by cases ds.any _ <;> rfl
  rw [e] at q
  rcases h2 with h2 | h2
  · obtain ⟨bs, r2⟩ := Dp.reads I _ _ _ h2 ry
    exact PySem.SeqAt.in_list_data r2 r1 h4 h3 (by omega) ⟨.bl _, H, I, rfl, q⟩
  · obtain ⟨bs, r2⟩ := Dp.reads I _ _ _ h2 ry
    exact PySem.SeqAt.in_tuple_data r2 r1 h4 h3 (by omega) ⟨.bl _, H, I, rfl, q⟩
theorem op_notInPl (hu : X.A.units + 65 < cLine) : OpR X (compareOp .NotIn) (rInD X.K true) := by
  intro pins s σ H x y v u Q I rx ry ⟨d, ds, h1, h2, h3, h4, h5, q⟩
  obtain ⟨as, r1⟩ := Dp.reads I _ _ _ h1 rx
  have e : ((ds.any fun z => PyData.eqv z d) != true) = !ds.any fun z => PyData.eqv z d := by cases ds.any _ <;> rfl
  rw [e] at q
  rcases h2 with h2 | h2
  · obtain ⟨bs, r2⟩ := Dp.reads I _ _ _ h2 ry
    exact PySem.SeqAt.notIn_list_data r2 r1 h4 h3 (by omega) ⟨.bl _, H, I, rfl, q⟩
  · obtain ⟨bs, r2⟩ := Dp.reads I _ _ _ h2 ry
    exact PySem.SeqAt.notIn_tuple_data r2 r1 h4 h3 (by omega) ⟨.bl _, H, I, rfl, q⟩
theorem pys_any {x : D} (hx : x.pl = true) : ∀ ys : List D, D.pls ys = true → ((D.pys ys).any fun z => PyData.eqv z x.py) = ys.any fun y => D.eqv y x
  | [], _ => rfl
  | y :: ys, h => by
    have h' : (D.pl y && D.pls ys) = true := h
    rw [Bool.and_eq_true] at h'
    show (PyData.eqv y.py x.py || ((D.pys ys).any fun z => PyData.eqv z x.py)) = (D.eqv y x || ys.any fun y => D.eqv y x)
    rw [py_eqv y x h'.1 hx, pys_any hx ys h'.2]
theorem in_dic_look (g : Good G N sc k X) {S H : Hp} {L : List Addr} {h : Cells} {x y : Pe.W} {v u : V} {p : D} {kvs : List (D × D)} {kk : NestedKey} (ok : Ok G S L h H) (r1 : WIs G S L x v) (r2 : WIs G S L y u) (e1 : x.rd h = some p) (e2 : y.rd h = some (.dic kvs)) (hk : p.hk = some kk) :
    ∃ a o, u = .ref a ∧ DLook X.w X.K H a v o ∧ o.isSome = (dget kvs kk).isSome ∧ ∀ z, dget kvs kk = some z → ∃ w, o = some w ∧ Rp G S z w := by
  obtain ⟨a, l, rfl, rd, rk, nd⟩ := rd_vw ok r2 e2
  have kv : KIs G.K H kk v := by
    have := rd_vw ok r1 e1
    have q := (hk_key hk).1
    have rp : Rp G S p v := by
      cases p <;> first | exact this | (cases q; done)
    exact KIs.ext (fun b xs e => ok.sub _ _ e) _ _ (Rp.key p v kk rp q)
  have dw : DicW G.K H l := (rk.dicw nd).ext fun b xs e => ok.sub _ _ e
  refine ⟨a, lget l kk, rfl, ⟨l, kk, by rw [g.w]; exact rd, by rw [g.K]; exact dw, by rw [g.K]; exact kv, (hk_key hk).2, rfl⟩, ?_, fun z hz => ?_⟩
  · cases q : dget kvs kk with
    | none => rw [(rk.get kk).2 q]; rfl
    | some z => obtain ⟨w, e, _⟩ := (rk.get kk).1 z q; rw [e]; rfl
  · obtain ⟨w, e, r⟩ := (rk.get kk).1 z hz
    exact ⟨w, e, r⟩
theorem in_pl (g : Good G N sc k X) {S H : Hp} {L : List Addr} {h : Cells} {x y : Pe.W} {v u : V} {p q : D} {b : Bool} {neg : Bool} {Q : VK} (ok : Ok G S L h H) (r1 : WIs G S L x v) (r2 : WIs G S L y u) (e1 : x.rd h = some p) (e2 : y.rd h = some q) (e3 : inD p q = some b) (hq : Q (.bl (b != neg)) H) :
    rInD X.K neg v u H Q ∨ ∃ a o, u = .ref a ∧ DLook X.w X.K H a v o ∧ Q (.bl (o.isSome != neg)) H := by
  have v1 := rd_vw ok r1 e1
  have v2 := rd_vw ok r2 e2
  have pl : ∀ ys : List D, (Dp X.K H u (.list (D.pys ys)) ∨ Dp X.K H u (.tuple (D.pys ys))) → (if (p.pl && D.pls ys && decide (p.dep ≤ 60)) = true then some (ys.any fun y => D.eqv y p) else none) = some b → rInD X.K neg v u H Q := fun ys hy e => by
    split at e
    · rename_i hc
      cases e
      simp only [Bool.and_eq_true, decide_eq_true_eq] at hc
      refine ⟨p.py, D.pys ys, by rw [g.K]; exact vw_dp ok.sub hc.1.1 v1, hy, py_plain p hc.1.1, pys_plain ys hc.1.2, Nat.le_trans (py_depth p) hc.2, ?_⟩
      rw [pys_any hc.1.1 ys hc.1.2]; exact hq
    · cases e
  cases q <;> first | (cases p <;> cases e3; done) | skip
  · rename_i ys
    have e3' : (if (p.pl && D.pls ys && decide (p.dep ≤ 60)) = true then some (ys.any fun y => D.eqv y p) else none) = some b := by cases p <;> exact e3
    have hp : D.pl (.tup ys) = true := by
      split at e3'
      · rename_i hc; simp only [Bool.and_eq_true] at hc; exact hc.1.2
      · cases e3'
    exact .inl (pl ys (.inr (by rw [g.K]; exact vw_dp ok.sub hp v2)) e3')
  · rename_i ys
    have e3' : (if (p.pl && D.pls ys && decide (p.dep ≤ 60)) = true then some (ys.any fun y => D.eqv y p) else none) = some b := by cases p <;> exact e3
    have hp : D.pl (.lst ys) = true := by
      split at e3'
      · rename_i hc; simp only [Bool.and_eq_true] at hc; exact hc.1.2
      · cases e3'
    exact .inl (pl ys (.inl (by rw [g.K]; exact vw_dp ok.sub hp v2)) e3')
  · rename_i kvs
    have e3' : (match p.hk with | some k => some (dget kvs k).isSome | none => none) = some b := by cases p <;> exact e3
    split at e3'
    · rename_i kk hk
      cases e3'
      obtain ⟨a, o, h1, h2, h3, _⟩ := in_dic_look g ok r1 r2 e1 e2 hk
      exact .inr ⟨a, o, h1, h2, by rw [h3]; exact hq⟩
    · cases e3'
theorem cmpd_in (g : Good G N sc k X) : CmpD G X .In := ⟨_, (op_inPl (by have := g.room.un; omega)).or (op_in_dic (by have := g.room.un; omega)), fun {S H L h x y v u p q b Q} ok r1 r2 e1 e2 e3 hq => by
  rcases in_pl g (neg := false) (Q := Q) ok r1 r2 e1 e2 (b := b) (by cases p <;> exact e3) (by rw [show (b != false) = b by cases b <;> rfl]; exact hq) with z | ⟨a, o, h1, h2, q⟩
  · exact .inl z
  · exact .inr ⟨a, o, h1, h2, by rw [show (o.isSome != false) = o.isSome by cases o.isSome <;> rfl] at q; exact q⟩⟩
theorem cmpd_notIn (g : Good G N sc k X) : CmpD G X .NotIn := ⟨_, (op_notInPl (by have := g.room.un; omega)).or (op_notIn_dic (by have := g.room.un; omega)), fun {S H L h x y v u p q b Q} ok r1 r2 e1 e2 e3 hq => by
  have e3' : (inD p q).map (!·) = some b := by cases p <;> exact e3
  obtain ⟨c, e4, rfl⟩ := Option.map_eq_some_iff.mp e3'
  rcases in_pl g (neg := true) (Q := Q) ok r1 r2 e1 e2 e4 (by rw [show (c != true) = !c by cases c <;> rfl]; exact hq) with z | ⟨a, o, h1, h2, q⟩
  · exact .inl z
  · exact .inr ⟨a, o, h1, h2, by rw [show (o.isSome != true) = !o.isSome by cases o.isSome <;> rfl] at q; exact q⟩⟩
/-! == -/
def rEqP (K : PySem.W.Frag) (neg : Bool) : R2 := fun x y H Q => ∃ d e, Dp K H x d ∧ Dp K H y e ∧ d.plain = true ∧ e.plain = true ∧ (d.depth ≤ 60 ∨ e.depth ≤ 60) ∧ Q (.bl (PyData.eqv d e != neg)) H
theorem op_eqP (hu : X.A.units + 65 < cLine) : OpR X (compareOp .Eq) (rEqP X.K false) := by
  intro pins s σ H x y v u Q I rx ry ⟨d, e, h1, h2, h3, h4, h5, q⟩
  obtain ⟨as, r1⟩ := Dp.reads I _ _ _ h1 rx
  obtain ⟨bs, r2⟩ := Dp.reads I _ _ _ h2 ry
  rw [show (PyData.eqv d e != false) = PyData.eqv d e by cases PyData.eqv d e <;> rfl] at q
  exact PySem.SeqAt.eq_plain r1 r2 h3 h4 (by omega) ⟨.bl _, H, I, rfl, q⟩
theorem op_neP (hu : X.A.units + 65 < cLine) : OpR X (compareOp .NotEq) (rEqP X.K true) := by
  intro pins s σ H x y v u Q I rx ry ⟨d, e, h1, h2, h3, h4, h5, q⟩
  obtain ⟨as, r1⟩ := Dp.reads I _ _ _ h1 rx
  obtain ⟨bs, r2⟩ := Dp.reads I _ _ _ h2 ry
  rw [show (PyData.eqv d e != true) = !PyData.eqv d e by cases PyData.eqv d e <;> rfl] at q
  exact PySem.SeqAt.ne_plain r1 r2 h3 h4 (by omega) ⟨.bl _, H, I, rfl, q⟩
theorem own_at {S H : Hp} {L : List Addr} {h : Cells} {x : Pe.W} {v : V} {c : Str} (ok : Ok G S L h H) (r : WIs G S L x v) (e : x.own h = some c) : ∃ a dx vs, v = .ref a ∧ H a = some (.ins (clsAt G.mg c) dx vs) := by
  cases x with
  | d x =>
    cases x <;> first | (cases e; done) | skip
    cases e
    obtain ⟨a, dx, vs, h1, h2, _⟩ := r
    exact ⟨a, dx, vs, h1, ok.sub _ _ h2⟩
  | r n =>
    obtain ⟨a, h1, rfl⟩ := r
    have e' : (match h[n]? with | some ⟨.ins c _, false⟩ => some c | _ => none) = some c := e
    split at e'
    · rename_i c' fs hc
      cases e'
      obtain ⟨o, ⟨dx, vs, rfl, _⟩, q⟩ := (ok.cell n a _ h1 hc).ob rfl
      exact ⟨a, dx, vs, rfl, by simpa using q⟩
    · cases e'
theorem rp_flat {S H : Hp} {L : List Addr} {h : Cells} {x : D} {v : V} (g : Good G N sc k X) (ok : Ok G S L h H) (r : Rp G S x v) (f : flatTy x = true) : TyK X H v (.type x.ty) := vw_ty g.K g.w ok.sub (rp_vw ok r) f
/-- the type of what stands in a cell -/
theorem ob_ty (g : Good G N sc k X) {S H : Hp} {L : List Addr} {a : Addr} {o : Ob} {ho : HO} (hr : Rd H a ho) (ob : ObIs G S L a o ho) :
    (∃ c fs, o = .ins c fs) ∨ TyK X H (.ref a) (.type (match o with | .lst _ => "list" | .lstR _ => "list" | _ => "dict")) := by
  have hd : ∀ l : List DE, Rd H a (dicO G.w a l) → TyK X H (.ref a) (.type "dict") := fun l h2 pins σ s u I ru => by
    cases (show u = Value.ref a from ru)
    have h2' : Rd H a (dicO X.w a l) := by rw [g.w]; exact h2
    obtain ⟨_, _, es, ep, ⟨o, ho, hc, _⟩, _⟩ := dic_rd I h2'
    exact ⟨_, PySem.W.kitx_dict, ⟨o, ho, hc.1⟩, fun z => nomatch z⟩
  have hl : ∀ ys, Rd H a (.lst ys) → TyK X H (.ref a) (.type "list") := fun ys h2 => by
    rcases h2 with h2 | ⟨ob, h2⟩
    · exact tyk_of (.base (.lst h2))
    · exact tyk_of (.base (.frz h2))
  cases o with
  | lst xs => obtain ⟨ys, rfl, _⟩ := ob; exact .inr (hl _ hr)
  | lstR xs => obtain ⟨ys, rfl, _⟩ := ob; exact .inr (hl _ hr)
  | dic xs => obtain ⟨l, rfl, _⟩ := ob; exact .inr (hd _ hr)
  | dicR xs => obtain ⟨l, rfl, _⟩ := ob; exact .inr (hd _ hr)
  | ins c fs => exact .inl ⟨c, fs, rfl⟩
  | gone x => exact ob.elim
theorem ins_tyG (g : Good G N sc k X) {H : Hp} {a dx : Addr} {c : Str} {vs : List (Str × V)} (ct : ClsT G.K (clsAt G.mg c)) (h : H a = some (.ins (clsAt G.mg c) dx vs)) : TyK X H (.ref a) (.ref (clsAt G.mg c)) := ins_ty (by rw [g.K]; exact ct) h
theorem typed_nf {kk : Nat} (g : Good G N sc k X) (cf : Cfs G P cl kk) {S H : Hp} {L : List Addr} {h : Cells} {y : Pe.W} {u : V} {c : Str} {d : CDef} (hc : P.cls c = some d) (ok : Ok G S L h H) (r : WIs G S L y u) (e : y.typed P h = true) :
    ∃ t, TyK X H u t ∧ PySem.W.notFirst X.K (clsAt G.mg c) t = true := by
  have cF := cf.cls c d hc
  have flat : ∀ {t : String}, t ∈ sevenT → TyK X H u (.type t) → ∃ t, TyK X H u t ∧ PySem.W.notFirst X.K (clsAt G.mg c) t = true := fun ht z => ⟨_, z, by rw [g.K]; exact cF.ct.nf _ ht⟩
  have own : ∀ {c' : Str} {a dx : Addr} {vs : List (Str × V)}, (P.cls c').isSome = true → u = .ref a → H a = some (.ins (clsAt G.mg c') dx vs) → ∃ t, TyK X H u t ∧ PySem.W.notFirst X.K (clsAt G.mg c) t = true := fun {c' a dx vs} hs hu hh => by
    obtain ⟨d', hd⟩ := Option.isSome_iff_exists.mp hs
    subst hu
    exact ⟨_, ins_tyG g (cf.cls c' d' hd).ct hh, by rw [g.K]; exact (cF.two c' d' hd).2⟩
  cases y with
  | d x =>
    cases x with
    | cls _ => cases e
    | ins c' fs =>
      obtain ⟨a, dx, vs, h1, h2, _⟩ := r
      exact own e h1 (ok.sub _ _ h2)
    | _ => exact flat (flat_mem rfl) (rp_flat g ok r rfl)
  | r n =>
    obtain ⟨a, h1, rfl⟩ := r
    obtain ⟨cc, hcc, ci⟩ := ok.at h1
    have e' : (match h[n]? with | some ⟨.gone _, _⟩ => false | some ⟨.ins c _, lk⟩ => !lk && (P.cls c).isSome | some _ => true | none => false) = true := e
    rw [hcc] at e'
    obtain ⟨o, lk⟩ := cc
    rcases ci with ⟨ho, ob, q⟩ | ⟨x, e1, _⟩
    · have hr : Rd H a ho := by
        split at q
        · exact .inr q
        · exact .inl q
      rcases ob_ty g hr ob with ⟨c', fs, z⟩ | z
      · have z : o = .ins c' fs := z
        subst z
        have e2 : (!lk && (P.cls c').isSome) = true := e'
        rw [Bool.and_eq_true, Bool.not_eq_true'] at e2
        obtain ⟨dx, vs, rfl, _⟩ := ob
        rw [e2.1] at q
        exact own e2.2 rfl (by simpa using q)
      · exact flat (by cases o <;> simp [sevenT]) z
    · have e1 : o = .gone x := e1
      subst e1
      cases e'
def rOwnEq (G : Gx) (P : Prog) (cl : Cl) (X : Cx) (E : XK) (neg : Bool) : R2 := fun x y H Q => ∃ c : Str, (P.cls c).isSome = true ∧ P.isFn c "__eq__" = true ∧ rOwn X (clsAt G.mg c) (spOf G cl c "__eq__") E neg x y H Q
theorem post_toB {L : List Addr} {S H : Hp} {o : Out Val} {Q : Bool → Cells → Prop} (hp : Post G E L S H o.toB Q) : Post G E L S H o fun v h => ∃ b, v = vB b ∧ Q b h := by
  cases o with
  | exc x h => exact hp
  | bad => exact hp
  | ok v h =>
    have hp' : Post G E L S H (match v with | .w (.d (.bl b)) => Out.ok b h | _ => Out.bad) Q := hp
    split at hp'
    · exact ⟨_, rfl, hp'⟩
    · exact hp'.elim
theorem cmp_eq (g : Good G N sc (k + 1) X) (cf : Cfs G P cl k) (hx : PassesAt (L2.CX X.prog X.w) X σ E) (neg : Bool) : CmpOk G P cl X E σ (if neg then .NotEq else .Eq) := by
  have hu : X.A.units + 65 < cLine := by have := g.room.un; omega
  refine ⟨fun x y H Q => rEqP X.K neg x y H Q ∨ rOwnEq G P cl X E neg x y H Q, ?_, fun {S H L h x y v u Q} ok r1 r2 hp => ?_⟩
  · have own : OpRs X σ (compareOp (if neg then .NotEq else .Eq)) (rOwnEq G P cl X E neg) := by
      refine opr_ex fun c => opr_if fun h1 => opr_if fun h2 => ?_
      obtain ⟨d, hd⟩ := Option.isSome_iff_exists.mp h1
      have cF := cf.cls c d hd
      obtain ⟨f, o, F⟩ := cF.spec "__eq__" h2 (.inl rfl)
      cases neg with
      | false => exact op_ownEq (g.fnr F) (g.room.mono (Nat.le_succ k)) hx (by rw [g.K]; exact o)
      | true => exact op_ownNe (g.fnr F) g.room hx (by rw [g.K]; exact o) (by rw [g.K]; exact cF.ne h2)
    refine OpRs.or ?_ own
    cases neg with
    | false => exact .of (op_eqP hu)
    | true => exact .of (op_neP hu)
  · have hp' : Post G E L S H (eqM P cl x y h) fun b h => RV G L S H Q (vB (b != neg)) h := by
      cases neg with
      | false =>
        exact Post.imp (show Post G E L S H (eqM P cl x y h) _ from hp) fun b h r => by rw [show (b != false) = b by cases b <;> rfl]; exact r
      | true => exact Post.imp (Post.bind (show Post G E L S H ((eqM P cl x y h).bind fun b h => .ok (!b) h) _ from hp)) fun b h r => by rw [show (b != true) = !b by cases b <;> rfl]; exact r
    unfold eqM at hp'
    split at hp'
    · rename_i c hc
      split at hp'
      · rename_i hb
        simp only [Bool.and_eq_true] at hb
        obtain ⟨d, hd⟩ := Option.isSome_iff_exists.mp hb.1
        obtain ⟨a, dx, vs, rfl, ha⟩ := own_at ok r1 hc
        obtain ⟨t, ht, hn⟩ := typed_nf g cf hd ok r2 hb.2.2
        refine .inr ⟨c, hb.1, hb.2.1, a, dx, vs, t, rfl, ha, ht, hn, S, L, h, [x, y], ok, ⟨_, _, rfl, r1, _, _, rfl, r2, rfl⟩, ?_⟩
        refine (post_toB hp').imp fun v h' ⟨b, e1, r⟩ => ?_
        subst e1
        intro L' S' H' vv st ok' hv
        exact ⟨b, hv, r L' S' H' _ st ok' rfl⟩
      · exact hp'.elim
    · split at hp'
      · rename_i p q e1 e2
        unfold eqD at hp'
        split at hp'
        · rename_i r e3
          split at e3
          · rename_i hb
            cases e3
            simp only [Bool.and_eq_true, Bool.or_eq_true, decide_eq_true_eq] at hb
            refine .inl ⟨p.py, q.py, by rw [g.K]; exact vw_dp ok.sub hb.1.1 (rd_vw ok r1 e1), by rw [g.K]; exact vw_dp ok.sub hb.1.2 (rd_vw ok r2 e2), py_plain _ hb.1.1, py_plain _ hb.1.2, hb.2.imp (Nat.le_trans (py_depth p)) (Nat.le_trans (py_depth q)), ?_⟩
            rw [py_eqv p q hb.1.1 hb.1.2]
            exact rb_cmp ok hp'
          · cases e3
        · exact hp'.elim
      · exact hp'.elim
theorem cmp_all (g : Good G N sc (k + 1) X) (cf : Cfs G P cl k) (hx : PassesAt (L2.CX X.prog X.w) X σ E) (op : CmpOp) : CmpOk G P cl X E σ op := by
  cases op
  case Eq => exact cmp_eq g cf hx false
  case NotEq => exact cmp_eq g cf hx true
  case In => exact cmp_of _ (by decide) (by decide) (cmpd_in g)
  case NotIn => exact cmp_of _ (by decide) (by decide) (cmpd_notIn g)
  case Is => exact cmp_of _ (by decide) (by decide) cmpd_is
  case IsNot => exact cmp_of _ (by decide) (by decide) cmpd_isNot
  all_goals exact cmp_of _ (by decide) (by decide) (cmpd_int fun p q => by cases p <;> cases q <;> rfl)
/-! ### a chain of ints -/
theorem bind_ok {α β : Type} {o : Out α} {f : α → Cells → Out β} {v : β} {h' : Cells} (e : o.bind f = .ok v h') : ∃ a h1, f a h1 = .ok v h' := by
  cases o with
  | ok a h1 => exact ⟨a, h1, e⟩
  | exc x h1 => cases e
  | bad => cases e
def chainM (cl : Cl) (P : Prog) (ρ : Pe.Env) (mc : M) (op op' : CmpOp) (x y : D) (h : Cells) : Out Val := match x, y with
  | .int i, .int j => match cmpI op i j with
    | some true => (evalE P cl ρ mc h).toD.bind fun z h => match z with
      | .int k => match cmpI op' j k with
        | some r => .ok (vB r) h
        | none => .bad
      | _ => .bad
    | some false => .ok (vB false) h
    | none => .bad
  | _, _ => .bad
theorem snd_chain {op op' : CmpOp} (ha : SndE G P cl X E σ a ma) (hb : SndE G P cl X E σ b mb) (hc : SndE G P cl X E σ c mc) (hm : lastMarks [op, op'] [b, c] = false) :
    SndE G P cl X E σ (.Compare a [op, op'] [b, c] pos) (.chain op op' ma mb mc) ∧ SndT G P cl X E σ (.Compare a [op, op'] [b, c] pos) (.chain op op' ma mb mc) := by
  have ev : ∀ ρ h, evalE P cl ρ (.chain op op' ma mb mc) h = (evalE P cl ρ ma h).toD.bind fun x h => (evalE P cl ρ mb h).toD.bind fun y h => chainM cl P ρ mc op op' x y h := fun ρ h => rfl
  -- what is wanted of the chain's value
  have key : ∀ ρ S L h H, Ok G S L h H → EnvOk G S L ρ σ → ∀ Q : Bool → Hp → Prop, Post G E L S H (evalE P cl ρ (.chain op op' ma mb mc) h).toB (RB G L S H Q) → tChain (rCmpI op) (rCmpI op') (WE X a) (WE X b) (WE X c) σ H fun z H' => ∃ k, z = .bl k ∧ Q k H' := fun ρ S L h H ok en Q hp => by
    have e : (evalE P cl ρ (.chain op op' ma mb mc) h).toB = (evalE P cl ρ ma h).toD.bind fun x h => (evalE P cl ρ mb h).toD.bind fun y h => (chainM cl P ρ mc op op' x y h).toB := (congrArg Out.toB (ev ρ h)).trans ((toB_bind _ _).trans (congrArg _ (funext fun x => funext fun h => toB_bind _ _)))
    rw [e] at hp
    refine one_d ha ok en hp fun x h1 v L1 S1 H1 st1 ok1 en1 r1 hp1 => one_d hb ok1 en1 hp1 fun y h2 u L2 S2 H2 st2 ok2 en2 r2 hp2 => ?_
    unfold chainM at hp2
    split at hp2
    · rename_i i j
      split at hp2
      · rename_i e3
        refine ⟨i, j, true, Rp.ext st2.s _ _ r1, r2, e3, true, rfl, ?_⟩
        rw [if_pos rfl]
        rw [toB_bind] at hp2
        refine one_d hc ok2 en2 hp2 fun z h3 w L3 S3 H3 st3 ok3 en3 r3 hp3 => ?_
        split at hp3
        · rename_i k
          split at hp3
          · rename_i r e4
            exact ⟨j, k, r, Rp.ext st3.s _ _ r2, r3, e4, r, rfl, rb_now ok3 (RB.shift ((st1.trans st2).trans st3) hp3)⟩
          · exact hp3.elim
        · exact hp3.elim
      · rename_i e3
        refine ⟨i, j, false, Rp.ext st2.s _ _ r1, r2, e3, false, rfl, ?_⟩
        rw [if_neg (by decide)]
        exact ⟨false, rfl, rb_now ok2 (RB.shift (st1.trans st2) hp2)⟩
      · exact hp2.elim
    · exact hp2.elim
  refine ⟨fun ρ S L h H ok en Q hp => ?_, fun ρ S L h H ok en Q hp => WT.of (pt_chain (op_cmpI op) (op_cmpI op') peS peS peS hm) (key ρ S L h H ok en Q hp)⟩
  refine WE.of (pe_chain (op_cmpI op) (op_cmpI op') peS peS peS hm) ?_
  have bo : ∀ {o : Out Val}, (∀ v h, o = .ok v h → ∃ b, v = vB b) → Post G E L S H o (RV G L S H Q) → Post G E L S H o.toB (RB G L S H fun b H' => Q (.bl b) H') := fun {o} hv hp => by
    cases o with
    | exc x h => exact hp
    | bad => exact hp
    | ok v h =>
      obtain ⟨b, rfl⟩ := hv v h rfl
      exact fun L' S' H' st ok' => hp L' S' H' _ st ok' rfl
  have isb : ∀ v h', evalE P cl ρ (.chain op op' ma mb mc) h = .ok v h' → ∃ b, v = vB b := fun v h' e => by
    rw [ev] at e
    obtain ⟨x, h1, e1⟩ := bind_ok e
    obtain ⟨y, h2, e2⟩ := bind_ok e1
    unfold chainM at e2
    split at e2
    · split at e2
      · obtain ⟨z, h3, e3⟩ := bind_ok e2
        split at e3
        · split at e3
          · cases e3; exact ⟨_, rfl⟩
          · cases e3
        · cases e3
      · cases e2; exact ⟨_, rfl⟩
      · cases e2
    · cases e2
  have kk := key ρ S L h H ok en _ (bo isb hp)
  exact WE.mono kk fun v H1 h1 => WE.mono h1 fun u H2 ⟨i, j, b, q1, q2, q3, bb, q4, q5⟩ => ⟨i, j, b, q1, q2, q3, bb, q4, by
    split
    · rw [if_pos (by assumption)] at q5
      exact WE.mono q5 fun w H3 ⟨i, j, b, p1, p2, p3, p4, p5, p6⟩ => ⟨i, j, b, p1, p2, p3, by rw [p5]; exact p6⟩
    · rw [if_neg (by assumption)] at q5
      obtain ⟨k, z1, z2⟩ := q5
      rw [z1]; exact z2⟩
end
end Pe
set_option maxHeartbeats 4000000
namespace Pe
open PySem PySem.Spec PyProof.Rows L2
/-! ## objects that hold cells: reading, becoming plain -/
section
variable {G : Gx} {X : Cx} {N : List Str} {sc : Scope} {k : Nat} {S H S0 H0 : Hp} {L L0 : List Addr} {h h' : Cells}
theorem WIss.get : ∀ {ws : List Pe.W} {vs : List V}, WIss G S L ws vs → ∀ {i : Nat} {w : Pe.W}, ws[i]? = some w → ∃ v, vs[i]? = some v ∧ WIs G S L w v
  | [], vs, r, i, w, e => by simp at e
  | x :: xs, vs, r, i, w, e => by
    obtain ⟨v, q, rfl, r1, r2⟩ := r
    cases i with
    | zero => simp at e; subst e; exact ⟨v, rfl, r1⟩
    | succ i => obtain ⟨u, a, b⟩ := WIss.get r2 (i := i) (by simpa using e); exact ⟨u, by simpa using a, b⟩
theorem RrL.len : ∀ {ns : List Nat} {vs : List V}, RrL L ns vs → vs.length = ns.length
  | [], vs, r => by rw [show vs = [] from r]; rfl
  | n :: ns, vs, r => by
    obtain ⟨a, q, rfl, e, r2⟩ := r
    rw [List.length_cons, List.length_cons, RrL.len r2]
theorem RrL.get : ∀ {ns : List Nat} {vs : List V}, RrL L ns vs → ∀ {i n : Nat}, ns[i]? = some n → ∃ a, vs[i]? = some (.ref a) ∧ L[n]? = some a
  | [], vs, r, i, n, e => by simp at e
  | m :: ns, vs, r, i, n, e => by
    obtain ⟨a, q, rfl, e1, r2⟩ := r
    cases i with
    | zero => simp at e; subst e; exact ⟨a, rfl, e1⟩
    | succ i => obtain ⟨u, x, y⟩ := RrL.get r2 (i := i) (by simpa using e); exact ⟨u, by simpa using x, y⟩
theorem Rrk.len : ∀ {kvs : List (D × Nat)} {l : List DE}, Rrk G S L kvs l → l.length = kvs.length
  | [], l, r => by rw [show l = [] from r]; rfl
  | (kd, n) :: kvs, l, r => by
    obtain ⟨kk, kv, a, l', rfl, h2, h3, h4, h5⟩ := r
    rw [List.length_cons, List.length_cons, Rrk.len h5]
theorem Rrk.wf : ∀ {kvs : List (D × Nat)} {l : List DE}, Rrk G S L kvs l → ∀ p ∈ l, KIs G.K S p.1 p.2.1 ∧ p.1.depth ≤ 8
  | [], l, r, p, hp => by rw [show l = [] from r] at hp; cases hp
  | (kd, n) :: kvs, l, r, p, hp => by
    obtain ⟨kk, kv, a, l', rfl, h2, h3, h4, h5⟩ := r
    rcases List.mem_cons.mp hp with e | e
    · subst e; exact ⟨Rp.key _ _ _ h3 (hk_key h2).1, (hk_key h2).2⟩
    · exact Rrk.wf h5 p e
theorem Rrk.get : ∀ {kvs : List (D × Nat)} {l : List DE}, Rrk G S L kvs l → ∀ {kk : NestedKey} {n : Nat}, dget kvs kk = some n → ∃ a, lget l kk = some (.ref a) ∧ L[n]? = some a
  | [], l, r, kk, n, e => by unfold dget at e; cases e
  | (kd, m) :: kvs, l, r, kk, n, e => by
    obtain ⟨k', kv, a, l', rfl, h2, h3, h4, h5⟩ := r
    rw [lget_cons]
    unfold dget at e
    rw [(hk_key h2).1] at e
    by_cases q : k' = kk
    · subst q
      rw [if_pos rfl] at e ⊢
      cases e
      exact ⟨a, rfl, h4⟩
    · rw [if_neg (fun z => q (Option.some.inj z))] at e
      rw [if_neg q]
      exact Rrk.get h5 e
theorem Rrk.none : ∀ {kvs : List (D × Nat)} {l : List DE}, Rrk G S L kvs l → ∀ {kk : NestedKey}, (dget kvs kk).isNone = true → kk ∉ l.map (·.1)
  | [], l, r, kk, e => by rw [show l = [] from r]; simp
  | (kd, m) :: kvs, l, r, kk, e => by
    obtain ⟨k', kv, a, l', rfl, h2, h3, h4, h5⟩ := r
    unfold dget at e
    rw [(hk_key h2).1] at e
    by_cases q : k' = kk
    · subst q; rw [if_pos rfl] at e; cases e
    · rw [if_neg (fun z => q (Option.some.inj z))] at e
      rw [List.map_cons, List.mem_cons, not_or]
      exact ⟨fun z => q z.symm, Rrk.none h5 e⟩
theorem Rrk.snoc {kd : D} {kk : NestedKey} {kv : V} {n : Nat} {a : Addr} (hk : kd.hk = some kk) (r1 : Rp G S kd kv) (hn : L[n]? = some a) : ∀ {kvs : List (D × Nat)} {l : List DE}, Rrk G S L kvs l → Rrk G S L (kvs ++ [(kd, n)]) (l ++ [(kk, kv, .ref a)])
  | [], l, r => by rw [show l = [] from r]; exact ⟨kk, kv, a, [], rfl, hk, r1, hn, rfl⟩
  | (kd', m) :: kvs, l, r => by
    obtain ⟨k', kv', a', l', rfl, h2, h3, h4, h5⟩ := r
    exact ⟨k', kv', a', _, rfl, h2, h3, h4, Rrk.snoc hk r1 hn h5⟩
theorem Rrk.lim : ∀ {kvs : List (D × Nat)} {l : List DE}, Rrk G S L kvs l → (Ob.dicR kvs).lim L.length = true
  | [], l, r => rfl
  | (kd, n) :: kvs, l, r => by
    obtain ⟨kk, kv, a, l', rfl, h2, h3, h4, h5⟩ := r
    exact Bool.and_eq_true_iff.mpr ⟨decide_eq_true (List.getElem?_eq_some_iff.mp h4).1, Rrk.lim h5⟩
theorem subR_ok (g : Good G N sc k X) {x : Pe.W} {y : D} {v u : V} {n : Nat} (ok : Ok G S L h H) (r1 : WIs G S L x v) (r2 : Rp G S y u) (e : subR h x y = some n) :
    (∃ a ys i w, v = .ref a ∧ u = .int i ∧ SqL G.K H a ys ∧ atI ys i = some w ∧ WIs G S L (.r n) w) ∨ ∃ a w, v = .ref a ∧ DLook X.w X.K H a u (some w) ∧ WIs G S L (.r n) w := by
  unfold subR at e
  split at e
  · rename_i m
    obtain ⟨a, hm, rfl⟩ := r1
    split at e
    · rename_i kvs kd hc
      split at e
      · rename_i kk hk
        obtain ⟨ho, ⟨l, rfl, rk, nd⟩, q⟩ := (ok.cell m a _ hm hc).ob rfl
        have q : H a = some (dicO G.w a l) := by simpa using q
        obtain ⟨b, e1, e2⟩ := rk.get e
        have dw : DicW G.K H l := (DicW.mk nd rk.wf : DicW G.K S l).ext fun b xs e => ok.sub _ _ e
        have kv : KIs G.K H kk u := KIs.ext (fun b xs e => ok.sub _ _ e) _ _ (Rp.key _ _ _ r2 (hk_key hk).1)
        exact .inr ⟨a, .ref b, rfl, ⟨l, kk, by rw [g.w]; exact .inl q, by rw [g.K]; exact dw, by rw [g.K]; exact kv, (hk_key hk).2, e1.symm⟩, b, e2, rfl⟩
      · cases e
    · rename_i ns i hc
      split at e
      · rename_i j hj
        obtain ⟨ho, ⟨ys, rfl, rl⟩, q⟩ := (ok.cell m a _ hm hc).ob rfl
        have q : H a = some (.lst ys) := by simpa using q
        obtain ⟨b, e1, e2⟩ := rl.get e
        refine .inl ⟨a, ys, i, .ref b, rfl, r2, SqL.of q, ?_, b, e2, rfl⟩
        unfold atI
        rw [rl.len, show ixN ns.length i = ixAt ns.length i from rfl, hj]
        exact e1
      · cases e
    · cases e
  · cases e
/-! ### becoming plain -/
theorem fzL_fz {o : Ob} {x : D} (e : o.fzL = some x) : o.fz = some x := by
  cases o <;> first | exact e | (cases e; done)
theorem gone_l {o : Ob} {n : Nat} {a : Addr} {x : D} (st : Step L0 S0 H0 L S H) (ok : Ok G S L h H) (hn : L[n]? = some a) (hc : h[n]? = some ⟨o, false⟩) (fz : o.fzL = some x) : ∃ S2, Step L0 S0 H0 L S2 H ∧ Ok G S2 L (h.set n ⟨.gone x, false⟩) H ∧ Rp G S2 x (.ref a) := by
  rcases gone_ok st ok hn hc (fzL_fz fz) with q | ⟨e, _⟩
  · exact q
  · rw [fz] at e; cases e
theorem settleK_ok : ∀ {kvs : List (D × Nat)} {l : List DE} {S : Hp} {h : Cells} {q : List (D × D)} {h' : Cells}, Rrk G S L kvs l → Step L0 S0 H0 L S H → Ok G S L h H → settleK kvs h = some (q, h') → ∃ S2, Step L0 S0 H0 L S2 H ∧ Ext S S2 ∧ Ok G S2 L h' H ∧ Rpk G S2 q l
  | [], l, S, h, q, h', r, st, ok, e => by
    cases e
    exact ⟨S, st, Ext.refl S, ok, r⟩
  | (kd, n) :: kvs, l, S, h, q, h', r, st, ok, e => by
    obtain ⟨kk, kv, a, l', rfl, h2, h3, h4, h5⟩ := r
    unfold settleK at e
    split at e
    · rename_i ob hc
      split at e
      · rename_i x hx
        split at e
        · rename_i q' h2' e2
          cases e
          obtain ⟨S1, s1, o1, r1⟩ := gone_l (Step.refl) ok h4 hc hx
          obtain ⟨S2, s2, e3, o2, r2⟩ := settleK_ok (h5.mono s1.s fun _ _ z => z) (st.trans s1) o1 e2
          exact ⟨S2, s2, s1.s.trans e3, o2, kk, kv, .ref a, l', rfl, h2, Rp.ext (s1.s.trans e3) _ _ h3, Rp.ext e3 _ _ r1, r2⟩
        · cases e
      · cases e
    · cases e
theorem settleL_ok : ∀ {ns : List Nat} {vs : List V} {S : Hp} {h : Cells} {q : List D} {h' : Cells}, RrL L ns vs → Step L0 S0 H0 L S H → Ok G S L h H → settleL ns h = some (q, h') → ∃ S2, Step L0 S0 H0 L S2 H ∧ Ext S S2 ∧ Ok G S2 L h' H ∧ Rps G S2 q vs
  | [], vs, S, h, q, h', r, st, ok, e => by
    cases e
    exact ⟨S, st, Ext.refl S, ok, r⟩
  | n :: ns, vs, S, h, q, h', r, st, ok, e => by
    obtain ⟨a, vs', rfl, h4, h5⟩ := r
    unfold settleL at e
    split at e
    · rename_i ob hc
      split at e
      · rename_i x hx
        split at e
        · rename_i q' h2' e2
          cases e
          obtain ⟨S1, s1, o1, r1⟩ := gone_l (Step.refl) ok h4 hc hx
          obtain ⟨S2, s2, e3, o2, r2⟩ := settleL_ok h5 (st.trans s1) o1 e2
          exact ⟨S2, s2, s1.s.trans e3, o2, .ref a, vs', rfl, Rp.ext e3 _ _ r1, r2⟩
        · cases e
      · cases e
    · cases e
theorem settleK_get {n : Nat} : ∀ {kvs : List (D × Nat)} {h : Cells} {q : List (D × D)} {h' : Cells}, (Ob.dicR kvs).lim n = true → settleK kvs h = some (q, h') → h'[n]? = h[n]?
  | [], h, q, h', lm, e => by cases e; rfl
  | (kd, m) :: kvs, h, q, h', lm, e => by
    have lm' : decide (m < n) = true ∧ (Ob.dicR kvs).lim n = true := Bool.and_eq_true_iff.mp lm
    unfold settleK at e
    split at e
    · split at e
      · split at e
        · rename_i e2
          cases e
          rw [settleK_get lm'.2 e2, List.getElem?_set_ne (by have := of_decide_eq_true lm'.1; omega)]
        · cases e
      · cases e
    · cases e
theorem settleL_get {n : Nat} : ∀ {ns : List Nat} {h : Cells} {q : List D} {h' : Cells}, (Ob.lstR ns).lim n = true → settleL ns h = some (q, h') → h'[n]? = h[n]?
  | [], h, q, h', lm, e => by cases e; rfl
  | m :: ns, h, q, h', lm, e => by
    have lm' : decide (m < n) = true ∧ (Ob.lstR ns).lim n = true := Bool.and_eq_true_iff.mp lm
    unfold settleL at e
    split at e
    · split at e
      · split at e
        · rename_i e2
          cases e
          rw [settleL_get lm'.2 e2, List.getElem?_set_ne (by have := of_decide_eq_true lm'.1; omega)]
        · cases e
      · cases e
    · cases e
theorem upd_id {a : Addr} {o : HO} (e : H a = some o) : upd H a o = H := by
  funext b
  by_cases q : b = a
  · subst q; rw [upd_same, e]
  · rw [upd_ne q]
theorem settleC_ok {n : Nat} {a : Addr} (st : Step L0 S0 H0 L S H) (ok : Ok G S L h H) (hn : L[n]? = some a) (e : settleC h n = some h') : ∃ S2, Step L0 S0 H0 L S2 H ∧ Ok G S2 L h' H := by
  unfold settleC at e
  split at e
  · rename_i kvs hc
    split at e
    · rename_i q h2 e2
      cases e
      obtain ⟨ho, ⟨l, rfl, rk, nd⟩, q1⟩ := (ok.cell n a _ hn hc).ob rfl
      have q1 : H a = some (dicO G.w a l) := by simpa using q1
      obtain ⟨S2, s2, _, o2, r2⟩ := settleK_ok rk st ok e2
      have hc2 := (settleK_get (ok.lim n _ hc) e2).trans hc
      have := o2.put (c' := ⟨.dic q, false⟩) hn hc2 rfl ⟨l, rfl, r2, nd⟩ rfl rfl
      rw [upd_id q1] at this
      exact ⟨S2, s2, this⟩
    · cases e
  · rename_i ns hc
    split at e
    · rename_i q h2 e2
      cases e
      obtain ⟨ho, ⟨ys, rfl, rl⟩, q1⟩ := (ok.cell n a _ hn hc).ob rfl
      have q1 : H a = some (.lst ys) := by simpa using q1
      obtain ⟨S2, s2, _, o2, r2⟩ := settleL_ok rl st ok e2
      have hc2 := (settleL_get (ok.lim n _ hc) e2).trans hc
      have := o2.put (c' := ⟨.lst q, false⟩) hn hc2 rfl ⟨ys, rfl, r2⟩ rfl rfl
      rw [upd_id q1] at this
      exact ⟨S2, s2, this⟩
    · cases e
  · cases e
    exact ⟨S, st, ok⟩
end
section
variable {G : Gx} {P : Prog} {cl : Cl} {X : Cx} {E : XK} {σ : L2.St} {e : Expr} {m : M}
theorem snd_settle (he : SndE G P cl X E σ e m) : SndE G P cl X E σ e (.settle m) := fun ρ S L h H ok en Q hp => by
  have hp' : Post G E L S H ((evalE P cl ρ m h).bind fun v h => settleV v h) (RV G L S H Q) := hp
  refine he ρ S L h H ok en Q (hp'.bind.imp fun v h1 q L' S' H' vv st ok' hv => ?_)
  unfold settleV at q
  split at q
  · rename_i n
    split at q
    · rename_i h2 e
      obtain ⟨a, hn, rfl⟩ := hv
      obtain ⟨S2, s2, o2⟩ := settleC_ok st ok' hn e
      exact q L' S2 H' _ s2 o2 ⟨a, hn, rfl⟩
    · exact q.elim
  · exact q L' S' H' vv st ok' hv
end
end Pe
set_option maxHeartbeats 4000000
namespace Pe
open PySem PySem.Spec PyProof.Rows L2
section
variable {G : Gx} {P : Prog} {cl : Cl} {X : Cx} {E : XK} {σ : L2.St} {a b c e o : Expr} {ma mb mc : M} {pos apos : Pos} {N : List Str} {sc : Scope} {k : Nat}
/-! ### lists of expressions -/
def SndL (G : Gx) (P : Prog) (cl : Cl) (X : Cx) (E : XK) (σ : L2.St) : List Expr → List M → Prop
  | [], ms => ms = []
  | e :: es, ms => ∃ m q, ms = m :: q ∧ notStar e = true ∧ SndE G P cl X E σ e m ∧ SndL G P cl X E σ es q
theorem star_cons {env : Pos → PySem.Env} {e : Expr} {es : List Expr} {v : PySem.Env} (h : notStar e = true) : starEach (e :: es) v = (false, eval e v) :: starEach es v := by
  cases e <;> first | rfl | (cases h; done)
theorem star_plain {X : Cx} {pos : Pos} : ∀ {es : List Expr} {ms : List M}, SndL G P cl X E σ es ms → (backTo pos (starEach es X.env)).any (·.1) = false
  | [], _, _ => rfl
  | e :: es, ms, h => by
    obtain ⟨m, q, rfl, h1, _, h2⟩ := h
    rw [star_cons (env := fun _ => X.env) h1]
    show (false || (backTo pos (starEach es X.env)).any (·.1)) = false
    rw [star_plain h2]; rfl
theorem star_all {X : Cx} {pos : Pos} : ∀ {es : List Expr} {ms : List M}, SndL G P cl X E σ es ms → (backTo pos (starEach es X.env)).all (fun x => !x.1) = true
  | [], _, _ => rfl
  | e :: es, ms, h => by
    obtain ⟨m, q, rfl, h1, _, h2⟩ := h
    rw [star_cons (env := fun _ => X.env) h1]
    show (true && (backTo pos (starEach es X.env)).all (fun x => !x.1)) = true
    rw [star_all h2]; rfl
theorem SndL.len : ∀ {es : List Expr} {ms : List M}, SndL G P cl X E σ es ms → ms.length = es.length
  | [], _, h => by rw [show _ = [] from h]; rfl
  | e :: es, ms, h => by
    obtain ⟨m, q, rfl, _, _, h2⟩ := h
    rw [List.length_cons, List.length_cons, SndL.len h2]
theorem bind_assoc {α β γ : Type} (o : Out α) (f : α → Cells → Out β) (g : β → Cells → Out γ) : (o.bind f).bind g = o.bind fun a h => (f a h).bind g := by cases o <;> rfl
section
variable {ρ : Pe.Env} {σ : L2.St} {β : Type}
theorem ws_a : ∀ {es : List Expr} {ms : List M}, SndL G P cl X E σ es ms → ∀ {S H : Hp} {L : List Addr} {h : Cells} {R : β → Cells → Prop} {K : List Pe.W → Cells → Out β} {Q : List V → Hp → Prop}, Ok G S L h H → EnvOk G S L ρ σ →
    Post G E L S H ((evalWs P cl ρ ms h).bind K) R →
    (∀ ws h1 vs L1 S1 H1, Step L S H L1 S1 H1 → Ok G S1 L1 h1 H1 → EnvOk G S1 L1 ρ σ → WIss G S1 L1 ws vs → Post G E L1 S1 H1 (K ws h1) R → Q vs H1) → WA X es σ H Q
  | [], ms, hl, S, H, L, h, R, K, Q, ok, en, hp, hk => by
    subst hl
    exact WA.of pa_nil (hk [] h [] L S H Step.refl ok en rfl hp)
  | e :: es, ms, hl, S, H, L, h, R, K, Q, ok, en, hp, hk => by
    obtain ⟨m, q, rfl, h1, h2, h3⟩ := hl
    have hp' : Post G E L S H ((evalE P cl ρ m h).toW.bind fun x h => (evalWs P cl ρ q h).bind fun xs h => K (x :: xs) h) R := by
      have e1 : (evalWs P cl ρ (m :: q) h).bind K = (evalE P cl ρ m h).toW.bind fun x h => (evalWs P cl ρ q h).bind fun xs h => K (x :: xs) h :=
        (bind_assoc _ _ _).trans (congrArg _ (funext fun x => funext fun h => bind_assoc _ _ _))
      rw [← e1]; exact hp
    refine WA.of (pa_cons peS paS (star_cons (env := fun _ => X.env) h1)) (one_w h2 ok en hp' fun x g1 v L1 S1 H1 st ok1 en1 r hp1 => ?_)
    exact ws_a h3 ok1 en1 hp1 fun ws g2 vs L2 S2 H2 st2 ok2 en2 r2 hp2 => hk (x :: ws) g2 (v :: vs) L2 S2 H2 (st.trans st2) ok2 en2 ⟨v, vs, rfl, r.mono st2.s st2.pre, r2⟩ hp2
theorem ds_a : ∀ {es : List Expr} {ms : List M}, SndL G P cl X E σ es ms → ∀ {S H : Hp} {L : List Addr} {h : Cells} {R : β → Cells → Prop} {K : List D → Cells → Out β} {Q : List V → Hp → Prop}, Ok G S L h H → EnvOk G S L ρ σ →
    Post G E L S H ((evalDs P cl ρ ms h).bind K) R →
    (∀ ws h1 vs L1 S1 H1, Step L S H L1 S1 H1 → Ok G S1 L1 h1 H1 → EnvOk G S1 L1 ρ σ → Rps G S1 ws vs → Post G E L1 S1 H1 (K ws h1) R → Q vs H1) → WA X es σ H Q
  | [], ms, hl, S, H, L, h, R, K, Q, ok, en, hp, hk => by
    subst hl
    exact WA.of pa_nil (hk [] h [] L S H Step.refl ok en rfl hp)
  | e :: es, ms, hl, S, H, L, h, R, K, Q, ok, en, hp, hk => by
    obtain ⟨m, q, rfl, h1, h2, h3⟩ := hl
    have hp' : Post G E L S H ((evalE P cl ρ m h).toD.bind fun x h => (evalDs P cl ρ q h).bind fun xs h => K (x :: xs) h) R := by
      have e1 : (evalDs P cl ρ (m :: q) h).bind K = (evalE P cl ρ m h).toD.bind fun x h => (evalDs P cl ρ q h).bind fun xs h => K (x :: xs) h :=
        (bind_assoc _ _ _).trans (congrArg _ (funext fun x => funext fun h => bind_assoc _ _ _))
      rw [← e1]; exact hp
    refine WA.of (pa_cons peS paS (star_cons (env := fun _ => X.env) h1)) (one_d h2 ok en hp' fun x g1 v L1 S1 H1 st ok1 en1 r hp1 => ?_)
    exact ds_a h3 ok1 en1 hp1 fun ws g2 vs L2 S2 H2 st2 ok2 en2 r2 hp2 => hk (x :: ws) g2 (v :: vs) L2 S2 H2 (st.trans st2) ok2 en2 ⟨v, vs, rfl, Rp.ext st2.s _ _ r, r2⟩ hp2
end
/-! ### displays -/
theorem snd_tup {es : List Expr} {ms : List M} {x1 : Nat} (hl : SndL G P cl X E σ es ms) : SndE G P cl X E σ (.Tuple es x1 pos) (.tup ms) := fun ρ S L h H ok en Q hp =>
  WE.of (pe_tup paS) (ds_a hl ok en (K := fun ds h => if ds.length ≤ sizeLine then .ok (vD (.tup ds)) h else .bad) hp fun ds h1 vs L1 S1 H1 st ok1 en1 r hp1 => by
    split at hp1
    · rename_i hz
      refine ⟨by rw [r.len]; exact hz, fun p hn => ?_⟩
      obtain ⟨o2, s2⟩ := tuple_new ok1 (xs := vs) hn
      exact hp1 _ _ _ _ (st.trans s2) o2 ⟨p, vs, rfl, .inl upd_same, Rps.ext (ext_new (ok1.free hn).1) _ _ r⟩
    · exact hp1.elim)
theorem snd_lst {es : List Expr} {ms : List M} (hl : SndL G P cl X E σ es ms) : SndE G P cl X E σ (.List es pos) (.lst ms) := fun ρ S L h H ok en Q hp =>
  WE.of (pe_lst paS) (ds_a hl ok en (K := fun ds h => if ds.length ≤ sizeLine then Out.ok (Val.new (.lst ds)) h else .bad) hp fun ds h1 vs L1 S1 H1 st ok1 en1 r hp1 => by
    split at hp1
    · rename_i hz
      exact ⟨by rw [r.len]; exact hz, fun p hn => rv_lst ok1 (RV.shift st hp1) r hn⟩
    · exact hp1.elim)
theorem snd_lstS {a : Expr} {m : M} {es : List Expr} {ms : List M} (g : Good G N sc k X) (ha : SndE G P cl X E σ a m) (hl : SndL G P cl X E σ es ms) : SndE G P cl X E σ (.List (.Starred a p :: es) pos) (.lstS m ms) := fun ρ S L h H ok en Q hp => by
  refine WE.of (pe_lst (StX.pa_star peS paS)) ?_
  show WE X a σ H fun x H1 => ∃ p zs, x = V.ref p ∧ (SqT X.K H1 p zs ∨ SqL X.K H1 p zs) ∧ WA X es σ H1 fun ys H2 => (zs ++ ys).length ≤ sizeLine ∧ ∀ p, H2 p = none → Q (.ref p) (upd H2 p (.lst (zs ++ ys)))
  refine one_d ha ok en (K := fun x h => match x with
    | .lst xs => (evalDs P cl ρ ms h).bind fun ds h => if xs.length + ds.length ≤ sizeLine then Out.ok (Val.new (.lst (xs ++ ds))) h else .bad
    | .tup xs => (evalDs P cl ρ ms h).bind fun ds h => if xs.length + ds.length ≤ sizeLine then Out.ok (Val.new (.lst (xs ++ ds))) h else .bad
    | _ => .bad) hp fun x h1 v L1 S1 H1 st ok1 en1 r hp1 => ?_
  have go : ∀ {xs : List D} {a : Addr} {ys : List V}, (SqT X.K H1 a ys ∨ SqL X.K H1 a ys) → Rps G S1 xs ys → Post G E L1 S1 H1 ((evalDs P cl ρ ms h1).bind fun ds h => if xs.length + ds.length ≤ sizeLine then Out.ok (Val.new (.lst (xs ++ ds))) h else .bad) (RV G L S H Q) →
      ∃ p zs, V.ref a = V.ref p ∧ (SqT X.K H1 p zs ∨ SqL X.K H1 p zs) ∧ WA X es σ H1 fun ys H2 => (zs ++ ys).length ≤ sizeLine ∧ ∀ p, H2 p = none → Q (.ref p) (upd H2 p (.lst (zs ++ ys))) := fun {xs a ys} sq rs hq =>
    ⟨a, ys, rfl, sq, ds_a hl ok1 en1 hq fun ds h2 vs L2 S2 H2 st2 ok2 en2 r2 hp2 => by
      split at hp2
      · rename_i hz
        exact ⟨by rw [List.length_append, rs.len, r2.len]; exact hz, fun p hn => rv_lst ok2 (RV.shift (st.trans st2) hp2) ((Rps.ext st2.s _ _ rs).app r2) hn⟩
      · exact hp2.elim⟩
  cases x with
  | lst xs =>
    obtain ⟨a, ys, rfl, ha, rs⟩ := r
    exact go (.inr (by rw [g.K]; exact ext_sq ok1.sub ha)) rs hp1
  | tup xs =>
    obtain ⟨a, ys, rfl, ha, rs⟩ := r
    exact go (.inl (by rw [g.K]; exact TupA.sq (ha.imp (ok1.sub _ _) fun z => z))) rs hp1
  | _ => exact False.elim hp1
theorem rv_dic {S H : Hp} {L : List Addr} {h : Cells} {kvs : List (D × D)} {l : List DE} {p : Addr} {Q : VK} (ok : Ok G S L h H) (q : RV G L S H Q (.new (.dic kvs)) h) (r : Rpk G S kvs l) (nd : (l.map fun p : DE => p.1).Nodup) (hp : H p = none) : Q (.ref p) (upd H p (dicO G.w p l)) :=
  q L S _ _ (Step.apart hp) (ok.apart hp) ⟨p, _, rfl, hp, (ok.free hp).1, (ok.free hp).2, upd_same, ⟨l, rfl, r, nd⟩, rfl⟩
theorem snd_dnew (g : Good G N sc k X) : SndE G P cl X E σ (.Dict [] [] pos) .dnew := fun ρ S L h H ok en Q hp =>
  WE.of pe_dnew fun p hn => by rw [g.w]; exact rv_dic ok hp rfl List.nodup_nil hn
/-! ### subscripts -/
theorem plainIx_of {b : Expr} (h : notSlice b = true) : PlainIx b := by
  intro o i
  cases b <;> first | rfl | (cases h; done)
theorem ixAt_eq (n : Nat) (i : Int) : ixN n i = ixAt n i := rfl
theorem vw_seq {S H : Hp} {xs : List D} {v : V} (h : Vw G S H (.lst xs) v) : ∃ a ys, v = .ref a ∧ SqL G.K H a ys ∧ Rps G S xs ys := by
  obtain ⟨a, ys, h1, h2, h3⟩ := h; exact ⟨a, ys, h1, h2, h3⟩
theorem vw_sqt {S H : Hp} (sub : Ext S H) {xs : List D} {v : V} (h : Vw G S H (.tup xs) v) : ∃ a ys, v = .ref a ∧ SqT G.K H a ys ∧ Rps G S xs ys := by
  obtain ⟨a, ys, h1, h2, h3⟩ := h; exact ⟨a, ys, h1, TupA.sq (h2.imp (sub _ _) fun z => z), h3⟩
theorem at_get {S : Hp} {xs : List D} {ys : List V} (r : Rps G S xs ys) {i : Int} {j : Nat} {d : D} (e : ixAt xs.length i = some j) (e2 : xs[j]? = some d) : ∃ v, atI ys i = some v ∧ Rp G S d v := by
  obtain ⟨v, h1, h2⟩ := r.get e2
  refine ⟨v, ?_, h2⟩
  unfold atI
  rw [r.len, ixAt_eq, e]
  exact h1
theorem snd_sub (g : Good G N sc k X) (ha : SndE G P cl X E σ a ma) (hb : SndE G P cl X E σ b mb) (hs : notSlice b = true) : SndE G P cl X E σ (.Subscript a b pos) (.sub ma mb) := fun ρ S L h H ok en Q hp =>
  WE.of (pe_ix ((ix_list.or ix_tup).or (ix_dic (by have := g.room.un; omega))) peS peS (plainIx_of hs)) (one_w ha ok en (K := fun x h => (evalE P cl ρ mb h).toD.bind fun k h => match x.rd h with
    | some q => match subD q k with
      | some z => .ok (vD z) h
      | none => .bad
    | none => match subR h x k with
      | some n => .ok (.w (Pe.W.norm h (.r n))) h
      | none => .bad) hp fun x h1 v L1 S1 H1 st ok1 en1 r hp1 => one_d hb ok1 en1 hp1 fun y h2 u L2 S2 H2 st2 ok2 en2 r2 hp2 => by
    have r1 := r.mono st2.s st2.pre
    split at hp2
    · rename_i q e1
      split at hp2
      · rename_i z e2
        have now : ∀ {v : V}, Rp G S2 z v → Q v H2 := fun rz => rv_now ok2 (RV.shift (st.trans st2) hp2) rz
        have vw := rd_vw ok2 r1 e1
        cases q with
        | lst xs =>
          cases y with
          | int i =>
            have e2' : (match ixAt xs.length i with | some j => xs[j]? | none => none) = some z := e2
            split at e2'
            · rename_i j e3
              obtain ⟨a, ys, rfl, sq, rs⟩ := vw_seq vw
              obtain ⟨w, h1, h2⟩ := at_get rs e3 e2'
              exact .inl (.inl ⟨a, ys, i, w, rfl, r2, by rw [g.K]; exact sq, h1, now h2⟩)
            · cases e2'
          | _ => cases e2
        | tup xs =>
          cases y with
          | int i =>
            have e2' : (match ixAt xs.length i with | some j => xs[j]? | none => none) = some z := e2
            split at e2'
            · rename_i j e3
              obtain ⟨a, ys, rfl, sq, rs⟩ := vw_sqt ok2.sub vw
              obtain ⟨w, h1, h2⟩ := at_get rs e3 e2'
              exact .inl (.inr ⟨a, ys, i, w, rfl, r2, by rw [g.K]; exact sq, h1, now h2⟩)
            · cases e2'
          | _ => cases e2
        | dic kvs =>
          have e2' : (match y.hk with | some k => dget kvs k | none => none) = some z := by cases y <;> exact e2
          split at e2'
          · rename_i kk hk
            obtain ⟨a, o, rfl, dl, _, hz⟩ := in_dic_look (x := .d y) g ok2 r2 r1 rfl e1 hk
            obtain ⟨w, rfl, rw⟩ := hz z e2'
            exact .inr ⟨a, w, rfl, dl, now rw⟩
          · cases e2'
        | _ => cases e2
      · exact hp2.elim
    · split at hp2
      · rename_i n e2
        have now : ∀ {v : V}, WIs G S2 L2 (.r n) v → Q v H2 := fun {v} rz => hp2 L2 S2 H2 v (st.trans st2) ok2 (norm_ok ok2 rz)
        rcases subR_ok g ok2 r1 r2 e2 with ⟨a, ys, i, w, rfl, rfl, sq, q, rw⟩ | ⟨a, w, rfl, dl, rw⟩
        · exact .inl (.inl ⟨a, ys, i, w, rfl, rfl, by rw [g.K]; exact sq, q, now rw⟩)
        · exact .inr ⟨a, w, rfl, dl, now rw⟩
      · exact hp2.elim)
/-- an item of a display -/
theorem snd_pick {es : List Expr} {ms : List M} {lp : Pos} (g : Good G N sc k X) (hl : SndL G P cl X E σ es ms) (hb : SndE G P cl X E σ b mb) (hs : notSlice b = true) : SndE G P cl X E σ (.Subscript (.List es lp) b pos) (.pick ms mb) := fun ρ S L h H ok en Q hp => by
  refine WE.of (pe_ix ix_list (pe_lst paS) peS (plainIx_of hs)) ?_
  show WA X es σ H fun vs H1 => vs.length ≤ sizeLine ∧ ∀ p, H1 p = none → WE X b σ (upd H1 p (.lst vs)) fun u H2 => _
  refine ws_a hl ok en (K := fun ws h => if ws.length ≤ sizeLine then (evalE P cl ρ mb h).toD.bind fun k h => pickM ws k h else .bad) hp fun ws h1 vs L1 S1 H1 st ok1 en1 r hp1 => ?_
  split at hp1
  rotate_left
  · exact hp1.elim
  rename_i hlen
  refine ⟨by rw [r.len]; exact hlen, fun p hn => ?_⟩
  have o2 := ok1.apart (o := .lst vs) hn
  have s2 : Step L1 S1 H1 L1 S1 (upd H1 p (.lst vs)) := Step.apart hn
  refine one_d hb o2 (en1.step s2) (hp1.sh s2) fun y h2 u L2 S2 H2 st2 ok2 en2 r2 hp2 => ?_
  have hp' : Post G E L2 S2 H2 (match y with | .int i => (match ixAt ws.length i with | some j => (match ws[j]? with | some w => Out.ok (Val.w (w.norm h2)) h2 | none => .bad) | none => .bad) | _ => .bad) (RV G L S H Q) := hp2
  have pa : upd H1 p (.lst vs) p = some (.lst vs) := upd_same
  have pl : p ∉ L1 := (ok1.free hn).2
  split at hp'
  · rename_i i
    split at hp'
    · rename_i j hj
      split at hp'
      · rename_i w hw
        have r' : WIss G S2 L2 ws vs := WIss.mono st2.s st2.pre r
        obtain ⟨v, hv, rv⟩ := r'.get hw
        refine ⟨p, vs, i, v, rfl, r2, SqL.of (st2.k p _ pl pa), ?_, hp' L2 S2 H2 v ((st.trans s2).trans st2) ok2 (norm_ok ok2 rv)⟩
        unfold atI
        rw [r.len, ixAt_eq, hj]
        exact hv
      · exact hp'.elim
    · exact hp'.elim
  · exact hp'.elim
/-- a part of a slice -/
def SndO (G : Gx) (P : Prog) (cl : Cl) (X : Cx) (E : XK) (σ : L2.St) : Option Expr → Option M → Prop
  | none, m => m = none
  | some e, m => ∃ q, m = some q ∧ SndE G P cl X E σ e q
def WO (X : Cx) (e : Option Expr) : TO := fun σ H Q => ∀ pins s, Inv X pins σ H s → wpAny (model X.prog X.w) X.A (evalPart e X.env) (fun u s' => ∃ o H', Inv X pins σ H' s' ∧ IsPart u o ∧ Q o H') X.xe s
theorem poS {e : Option Expr} : PO X e (WO X e) := ⟨fun pins s _ _ _ I h => h pins s I⟩
theorem WO.of {e : Option Expr} {t : TO} {σ : L2.St} {H : Hp} {Q : Option Int → Hp → Prop} (h : PO X e t) (q : t σ H Q) : WO X e σ H Q := fun pins s I => h.run pins s σ H Q I q
theorem one_o {e : Option Expr} {m : Option M} {ρ : Pe.Env} {σ : L2.St} {S H : Hp} {L : List Addr} {h : Cells} {β : Type} {R : β → Cells → Prop} (ho : SndO G P cl X E σ e m) (ok : Ok G S L h H) (en : EnvOk G S L ρ σ) {K : Option Int → Cells → Out β} {Q : Option Int → Hp → Prop}
    (hp : Post G E L S H ((evalO P cl ρ m h).bind K) R)
    (hk : ∀ x h1 L1 S1 H1, Step L S H L1 S1 H1 → Ok G S1 L1 h1 H1 → EnvOk G S1 L1 ρ σ → Post G E L1 S1 H1 (K x h1) R → Q x H1) : WO X e σ H Q := by
  cases e with
  | none => subst ho; exact WO.of po_none (hk none h L S H Step.refl ok en hp)
  | some e =>
    obtain ⟨q, rfl, he⟩ := ho
    have e1 : (evalO P cl ρ (some q) h).bind K = (evalE P cl ρ q h).toD.bind fun x h => (match x with | .int i => (.ok (some i) h : Out (Option Int)) | _ => .bad).bind K := bind_assoc _ _ _
    rw [e1] at hp
    refine WO.of (po_some peS) (one_d he ok en hp fun x h1 v L1 S1 H1 st ok1 en1 r hp1 => ?_)
    split at hp1
    · rename_i i
      exact ⟨i, r, hk (some i) h1 L1 S1 H1 st ok1 en1 hp1⟩
    · exact hp1.elim
theorem cutIx_eq (n d : Nat) (i : Option Int) : HT.sIx n d i = cutIx n d i := by
  cases i with
  | none => rfl
  | some i => unfold HT.sIx cutIx; first | rfl | (simp only []; split <;> rfl) | (split <;> split <;> simp_all <;> omega)
theorem snd_slice {lo hi : Option Expr} {ml mh : Option M} {p2 : Pos} (ha : SndE G P cl X E σ a ma) (hl : SndO G P cl X E σ lo ml) (hh : SndO G P cl X E σ hi mh) (g : Good G N sc k X) : SndE G P cl X E σ (.Subscript a (.Slice lo hi none p2) pos) (.slice ma ml mh) := fun ρ S L h H ok en Q hp =>
  WE.of (pe_slice sl_list peS poS poS) (one_w ha ok en (K := fun x h => (evalO P cl ρ ml h).bind fun l h => (evalO P cl ρ mh h).bind fun u h => match x.rd h with
    | some q => match cutD q l u with
      | some v => .ok v h
      | none => .bad
    | none => .bad) hp fun x h1 v L1 S1 H1 st ok1 en1 r hp1 => one_o hl ok1 en1 hp1 fun l h2 L2 S2 H2 st2 ok2 en2 hp2 => one_o hh ok2 en2 hp2 fun u h3 L3 S3 H3 st3 ok3 en3 hp3 => by
    have r1 := (r.mono st2.s st2.pre).mono st3.s st3.pre
    split at hp3
    · rename_i q e1
      split at hp3
      · rename_i z e2
        cases q <;> first | (cases e2; done) | skip
        cases e2
        obtain ⟨a, ys, rfl, sq, rs⟩ := vw_seq (rd_vw ok3 r1 e1)
        refine ⟨a, ys, rfl, by rw [g.K]; exact sq, fun p hn => ?_⟩
        have rc : Rps G S3 ((‹List D›.drop (cutIx ‹List D›.length 0 l)).take (cutIx ‹List D›.length ‹List D›.length u - cutIx ‹List D›.length 0 l)) (cutV ys l u) := by
          unfold cutV
          rw [rs.len, cutIx_eq, cutIx_eq]
          exact (rs.drop _).take _
        exact rv_lst ok3 (RV.shift ((st.trans st2).trans st3) hp3) rc hn
      · exact hp3.elim
    · exact hp3.elim)
end
end Pe
set_option maxHeartbeats 4000000
namespace Pe
open PySem PySem.Spec PyProof.Rows L2
section
variable {G : Gx} {P : Prog} {cl : Cl} {X : Cx} {E : XK} {σ : L2.St} {a b c e o : Expr} {ma mb mc : M} {pos apos p : Pos} {N : List Str} {sc : Scope} {k : Nat}
/-! ### calls of own defs -/
theorem run_fnS {CX : CXT} {pins : List (Addr × Obj)} {H : Hp} {s : Shared} {f : Addr} {sp : Sp} {Q : VK} {us : List Value} {vs : List V} (F : FnR X.prog X.w X.K X.mg X.base CX k f sp) (hr : Room k X.A) (hx : PassesAt CX X σ E) (I : Inv X pins σ H s) (r : Vals vs us) (h : sp vs H Q E) :
    wpAny (model X.prog X.w) X.A (call (.ref f) us) (EP X pins σ Q) X.xe s := wpAny_call (codeAny_mono (F X.A X.stack s H us vs Q E hr I.env0 r h) fun r s' hq => by
  cases r with
  | error e => exact hx pins H s e s' I hq
  | ok fl =>
    cases fl with
    | ret u => exact I.after hq
    | next => exact False.elim hq
    | brk => exact False.elim hq
    | cont => exact False.elim hq)
theorem run_makeS {CX : CXT} {pins : List (Addr × Obj)} {H : Hp} {s : Shared} {C f : Addr} {sp : Sp} {Q : VK} {us : List Value} {vs : List V} (M : Mk X.K C f) (F : FnR X.prog X.w X.K X.mg X.base CX k f sp) (hr : Room (k + 1) X.A) (hx : PassesAt CX X σ E) (I : Inv X pins σ H s) (r : Vals vs us)
    (h : ∀ x dx, H x = Option.none → H dx = Option.none → dx ≠ x → sp (V.ref x :: vs) (upd (upd H dx (.own x)) x (.ins C dx [])) (fun v H2 => v = .non ∧ Q (.ref x) H2) E) :
    wpAny (model X.prog X.w) X.A (call (.ref C) us) (EP X pins σ Q) X.xe s := by
  have hq := h (s.heap.objs.size + 1) s.heap.objs.size (I.hok.fresh (Nat.le_succ _)) (I.hok.fresh (Nat.le_refl _)) (Nat.ne_of_lt (Nat.lt_succ_self _))
  have I2 := Inv.made (C := C) I
  have r2 : Vals (V.ref (s.heap.objs.size + 1) :: vs) (Value.ref (s.heap.objs.size + 1) :: us) := .cons rfl r
  refine wpAny_call (make_map (f := f) I.kIn M.makes M.init (beq_iff_eq.mp M.fn) (codeAny_mono (F _ X.stack _ _ (Value.ref (s.heap.objs.size + 1) :: us) _ _ E (hr.make C us []) (I2.env0.make C us []) r2 hq) fun r s' hq' => ?_))
  cases r with
  | error e => exact hx pins _ _ e s' I2 hq'
  | ok fl =>
    cases fl with
    | ret u =>
      obtain ⟨v, H', I3, rv, ev, q3⟩ := I2.after hq'
      subst ev
      exact ⟨rv, ⟨V.ref (s.heap.objs.size + 1), H', I3, rfl, q3⟩⟩
    | next => exact False.elim hq'
    | brk => exact False.elim hq'
    | cont => exact False.elim hq'
theorem we_callR {CX : CXT} {f : Addr} {sp : Sp} {x : Str} {es : List Expr} {H : Hp} {Q : VK} (F : FnR X.prog X.w X.K X.mg X.base CX k f sp) (hr : Room k X.A) (hk : PySem.W.keepIn X.K (.ref f) = true) (hg : Gl X x) (hm : X.mg x = some (.ref f)) (hx : PassesAt CX X σ E) (hd : (x == ("__debug__" : Str)) = false)
    (he : starEach (e :: es) X.env = (false, eval e X.env) :: starEach es X.env) (hst : (backTo pos (starEach es X.env)).any (·.1) = false) (h : WA X (e :: es) σ H fun vs H1 => sp vs H1 Q E) :
    WE X (.Call (.Name x p) (e :: es) [] pos) σ H Q := fun pins s I => by
  refine wpAny_Call_Name_kw (ld_glob I hg hm ?_ hd)
  exact PySem.W.callWith_K (h₀ := X.base) I.ok.mod.kin hk (thn (h pos pins s I) fun us s1 ⟨vs, H1, I1, r, q⟩ => ⟨I1.kIn, run_fnS F hr hx I1 r q⟩) he hst
theorem we_callR0 {CX : CXT} {f : Addr} {sp : Sp} {x : Str} {H : Hp} {Q : VK} (F : FnR X.prog X.w X.K X.mg X.base CX k f sp) (hr : Room k X.A) (hk : PySem.W.keepIn X.K (.ref f) = true) (hg : Gl X x) (hm : X.mg x = some (.ref f)) (hx : PassesAt CX X σ E) (hd : (x == ("__debug__" : Str)) = false) (h : sp [] H Q E) :
    WE X (.Call (.Name x p) [] [] pos) σ H Q := fun pins s I => by
  refine wpAny_Call_Name_kw (ld_glob I hg hm ?_ hd)
  exact PySem.W.callWith_K0 I.kIn hk (run_fnS (us := []) F hr hx I .nil h)
theorem we_makeR {CX : CXT} {C f : Addr} {sp : Sp} {x : Str} {es : List Expr} {H : Hp} {Q : VK} (M : Mk X.K C f) (F : FnR X.prog X.w X.K X.mg X.base CX k f sp) (hr : Room (k + 1) X.A) (hg : Gl X x) (hm : X.mg x = some (.ref C)) (hx : PassesAt CX X σ E) (hd : (x == ("__debug__" : Str)) = false)
    (he : starEach (e :: es) X.env = (false, eval e X.env) :: starEach es X.env) (hst : (backTo pos (starEach es X.env)).any (·.1) = false) (h : StX.tMakeR C sp E (WA X (e :: es)) σ H Q) :
    WE X (.Call (.Name x p) (e :: es) [] pos) σ H Q := fun pins s I => by
  refine wpAny_Call_Name_kw (ld_glob I hg hm ?_ hd)
  have h' : WA X (e :: es) σ H fun vs H1 => ∀ x dx, H1 x = Option.none → H1 dx = Option.none → dx ≠ x → sp (V.ref x :: vs) (upd (upd H1 dx (.own x)) x (.ins C dx [])) (fun v H2 => v = .non ∧ Q (.ref x) H2) E := h
  exact PySem.W.callWith_K (h₀ := X.base) I.ok.mod.kin M.kp (thn (h' pos pins s I) fun us s1 ⟨vs, H1, I1, r, q⟩ => ⟨I1.kIn, run_makeS M F hr hx I1 r q⟩) he hst
theorem we_makeR0 {CX : CXT} {C f : Addr} {sp : Sp} {x : Str} {H : Hp} {Q : VK} (M : Mk X.K C f) (F : FnR X.prog X.w X.K X.mg X.base CX k f sp) (hr : Room (k + 1) X.A) (hg : Gl X x) (hm : X.mg x = some (.ref C)) (hx : PassesAt CX X σ E) (hd : (x == ("__debug__" : Str)) = false) (h : StX.tMakeR C sp E tNil σ H Q) :
    WE X (.Call (.Name x p) [] [] pos) σ H Q := fun pins s I => by
  refine wpAny_Call_Name_kw (ld_glob I hg hm ?_ hd)
  exact PySem.W.callWith_K0 I.kIn M.kp (run_makeS (us := []) M F hr hx I .nil h)
theorem get_in {α : Type} {S : List α} {n : Nat} {a : α} (h : S[n]? = some a) (nd : S.Nodup) {m : Nat} (hm : m ≤ n) : a ∉ S.take m := fun z => by
  obtain ⟨i, hi⟩ := List.mem_iff_getElem?.mp z
  have hl : i < m := by
    have := (List.getElem?_eq_some_iff.mp hi).1
    rw [List.length_take] at this; omega
  rw [List.getElem?_take_of_lt hl] at hi
  have := (List.getElem?_inj (List.getElem?_eq_some_iff.mp hi).1 nd).mp (hi.trans h.symm)
  omega
/-- a new instance: the state in which __init__ begins -/
theorem make_ok {S H : Hp} {L : List Addr} {h : Cells} {x dx : Addr} {c : Str} (ok : Ok G S L h H) (h1 : H x = none) (h2 : H dx = none) (ne : dx ≠ x) :
    Ok G S (L ++ [x]) (h ++ [⟨.ins c [], false⟩]) (upd (upd H dx (.own x)) x (.ins (clsAt G.mg c) dx [])) ∧ Step L S H (L ++ [x]) S (upd (upd H dx (.own x)) x (.ins (clsAt G.mg c) dx [])) := by
  have hx : (upd H dx (.own x)) x = none := by rw [upd_ne (Ne.symm ne)]; exact h1
  have s1 : Step L S H L S (upd H dx (.own x)) := Step.apart h2
  have o1 := ok.apart (o := HO.own x) h2
  have s2 := s1.trans (Step.apart (o := HO.ins (clsAt G.mg c) dx []) hx)
  have o2 := o1.apart (o := HO.ins (clsAt G.mg c) dx []) hx
  exact ⟨o2.push upd_same (ok.free h1).1 (ok.free h1).2 ⟨dx, [], rfl, rfl⟩ rfl, s2.push h1⟩
/-- what is made of what __init__ leaves -/
def madeM (c : CDef) (n : Nat) (v : Val) (h' : Cells) : Out Val := match v with
  | .w (.d .non) => if c.mu then .ok (.w (.r n)) h' else match h'[n]? with
    | some ⟨.ins k fs, false⟩ => .ok (.new (.ins k fs)) (h'.take n)
    | _ => .bad
  | _ => .bad
theorem make_post {S H S1 H1 : Hp} {L L1 : List Addr} {h1 : Cells} {x dx : Addr} {c : Str} {d : CDef} {ws : List Pe.W} {vs : List V} {Q : VK} (st : Step L S H L1 S1 H1) (ok : Ok G S1 L1 h1 H1) (r : WIss G S1 L1 ws vs) (hx : H1 x = none) (hdx : H1 dx = none) (ne : dx ≠ x)
    (hp : Post G E L1 S1 H1 ((cl c "__init__" (.r h1.length :: ws) (h1 ++ [⟨.ins c [], false⟩])).bind (madeM d h1.length)) (RV G L S H Q)) :
    spOf G cl c "__init__" (.ref x :: vs) (upd (upd H1 dx (.own x)) x (.ins (clsAt G.mg c) dx [])) (fun v H2 => v = .non ∧ Q (.ref x) H2) E := by
  obtain ⟨o2, s2⟩ := make_ok (c := c) ok hx hdx ne
  have hn : (L1 ++ [x])[h1.length]? = some x := by rw [← ok.len, List.getElem?_append_right (Nat.le_refl _), Nat.sub_self]; rfl
  refine ⟨S1, L1 ++ [x], _, .r h1.length :: ws, o2, ⟨_, _, rfl, ⟨x, hn, rfl⟩, r.mono (Ext.refl S1) s2.pre⟩, ?_⟩
  refine (hp.bind.sh s2).imp fun v h' r2 => ?_
  intro L' S' H' vv st' ok' hv
  have stt : Step L S H L' S' H' := (st.trans s2).trans st'
  have r3 : Post G E L1 S1 H1 (madeM d h1.length v h') (RV G L S H Q) := r2
  unfold madeM at r3
  split at r3
  · refine ⟨hv, ?_⟩
    split at r3
    · exact r3 L' S' H' _ stt ok' ⟨x, st'.ix hn, rfl⟩
    · split at r3
      · rename_i k fs hc
        have hn' := st'.ix hn
        obtain ⟨ho, ob, q⟩ := (ok'.cell _ _ _ hn' hc).ob rfl
        have q : H' x = some ho := by simpa using q
        have lm := ok'.lim _ _ hc
        have sc : Step L S H (L'.take h1.length) S' H' := by
          rw [← ok.len]; exact st.trans (s2.trans st').cut
        have hlen : (L'.take h1.length).length = h1.length := by
          rw [List.length_take]
          have := (List.getElem?_eq_some_iff.mp hn').1
          omega
        exact r3 (L'.take h1.length) S' H' _ sc (ok'.cut _) ⟨x, ho, rfl, st.non hx, ok'.out _ _ _ hn' hc rfl, get_in hn' ok'.nd (Nat.le_refl _), q, ob.cut lm, by rw [hlen]; exact lm⟩
      · exact r3.elim
  · exact r3.elim
/-- no argument, or more -/
theorem we_call {es : List Expr} {ms : List M} {ρ : Pe.Env} {σ : L2.St} {S H : Hp} {L : List Addr} {h : Cells} {x : Str} {pp : Pos} {K : List Pe.W → Cells → Out Val} {Q : VK} {r : List V → Hp → Prop}
    (hl : SndL G P cl X E σ es ms) (ok : Ok G S L h H) (en : EnvOk G S L ρ σ)
    (h0 : es = [] → r [] H → WE X (.Call (.Name x pp) [] [] pos) σ H Q) (h1 : ∀ e r', es = e :: r' → WA X es σ H r → WE X (.Call (.Name x pp) es [] pos) σ H Q)
    (hp : Post G E L S H ((evalWs P cl ρ ms h).bind K) (RV G L S H Q))
    (hk : ∀ ws h1 vs L1 S1 H1, Step L S H L1 S1 H1 → Ok G S1 L1 h1 H1 → WIss G S1 L1 ws vs → Post G E L1 S1 H1 (K ws h1) (RV G L S H Q) → r vs H1) : WE X (.Call (.Name x pp) es [] pos) σ H Q := by
  cases es with
  | nil =>
    have e : ms = [] := hl
    subst e
    exact h0 rfl (hk [] h [] L S H Step.refl ok rfl hp)
  | cons e r' => exact h1 e r' rfl (ws_a hl ok en hp fun ws h1 vs L1 S1 H1 st ok1 en1 r2 hp1 => hk ws h1 vs L1 S1 H1 st ok1 r2 hp1)
theorem hdb_of {x : Str} (hx : isGl sc x = true) : (x == ("__debug__" : Str)) = false := (plainName_ok (isGl_ok hx).1).1
theorem call_hp {L : List Addr} {S H : Hp} {ρ : Pe.Env} {h : Cells} {x : Str} {ms : List M} {R : Val → Cells → Prop} (hk : callOk P x ms.length = true) (hp : Post G E L S H (evalE P cl ρ (.call x ms) h) R) : Post G E L S H ((evalWs P cl ρ ms h).bind fun ws h => callM P cl x ws h) R := by
  have hp' : Post G E L S H (if callOk P x ms.length = true then (evalWs P cl ρ ms h).bind fun ws h => callM P cl x ws h else .bad) R := hp
  rw [if_pos hk] at hp'
  exact hp'
theorem snd_callF (g : Good G N sc (k + 1) X) (cf : Cfs G P cl k) (hx : PassesAt (L2.CX X.prog X.w) X σ E) {x : Str} {es : List Expr} {ms : List M} (hg : isGl sc x = true) (hl : SndL G P cl X E σ es ms) (hf : P.isFn "" x = true) : SndE G P cl X E σ (.Call (.Name x p) es [] pos) (.call x ms) := fun ρ S L h H ok en Q hp => by
  replace hp := call_hp (by simp [callOk, hf]) hp
  obtain ⟨f, hm, hk, F⟩ := cf.fn x hf
  have hr : Room k X.A := g.room.mono (Nat.le_succ k)
  have hm' : X.mg x = some (.ref f) := by rw [g.mg]; exact hm
  have hk' : PySem.W.keepIn X.K (.ref f) = true := by rw [g.K]; exact hk
  refine we_call (r := fun vs H1 => spOf G cl "" x vs H1 Q E) hl ok en (fun _ q => we_callR0 (g.fnr F) hr hk' (g.gl hg) hm' hx (hdb_of hg) q) (fun e r' he q => ?_) (K := fun ws h => callM P cl x ws h) hp fun ws h1 vs L1 S1 H1 st ok1 r2 hp1 => ?_
  · subst he
    obtain ⟨m, q', rfl, e1, e2, e3⟩ := hl
    exact we_callR (g.fnr F) hr hk' (g.gl hg) hm' hx (hdb_of hg) (star_cons (env := fun _ => X.env) e1) (star_plain e3) q
  · unfold callM at hp1
    rw [if_pos hf] at hp1
    exact ⟨S1, L1, h1, ws, ok1, r2, hp1.imp fun v h' r => RV.shift st r⟩
theorem snd_callC (g : Good G N sc (k + 1) X) (cf : Cfs G P cl k) (hx : PassesAt (L2.CX X.prog X.w) X σ E) {x : Str} {d : CDef} {es : List Expr} {ms : List M} (hg : isGl sc x = true) (hl : SndL G P cl X E σ es ms) (hf : ¬ P.isFn "" x = true) (hc : P.cls x = some d) (hi : P.isFn x "__init__" = true) : SndE G P cl X E σ (.Call (.Name x p) es [] pos) (.call x ms) := fun ρ S L h H ok en Q hp => by
  replace hp := call_hp (by simp [callOk, hc, hi]) hp
  have cF := cf.cls x d hc
  obtain ⟨f, M, F⟩ := cF.init hi
  have hm' : X.mg x = some (.ref (clsAt G.mg x)) := by rw [g.mg]; exact cF.mg
  have M' : Mk X.K (clsAt G.mg x) f := by rw [g.K]; exact M
  refine we_call (r := fun vs H1 => ∀ y dx, H1 y = none → H1 dx = none → dx ≠ y → spOf G cl x "__init__" (.ref y :: vs) (upd (upd H1 dx (.own y)) y (.ins (clsAt G.mg x) dx [])) (fun v H2 => v = .non ∧ Q (.ref y) H2) E) hl ok en (fun _ q => we_makeR0 M' (g.fnr F) g.room (g.gl hg) hm' hx (hdb_of hg) q) (fun e r' he q => ?_) (K := fun ws h => callM P cl x ws h) hp fun ws h1 vs L1 S1 H1 st ok1 r2 hp1 y dx e1 e2 e3 => ?_
  · subst he
    obtain ⟨m, q', rfl, e1, e2, e3⟩ := hl
    exact we_makeR M' (g.fnr F) g.room (g.gl hg) hm' hx (hdb_of hg) (star_cons (env := fun _ => X.env) e1) (star_plain e3) q
  · have hp2 : Post G E L1 S1 H1 ((cl x "__init__" (.r h1.length :: ws) (h1 ++ [⟨.ins x [], false⟩])).bind (madeM d h1.length)) (RV G L S H Q) := by
      unfold callM at hp1
      rw [if_neg hf, hc] at hp1
      simp only [hi, if_true] at hp1
      exact hp1
    exact make_post st ok1 r2 e1 e2 e3 hp2
/-! ### a class called with keywords -/
theorem pick_get {S : Hp} {L : List Addr} : ∀ {ws : List Pe.W} {vs : List V}, WIss G S L ws vs → ∀ {i : Nat} {w : Pe.W}, ws[i]? = some w → WIs G S L w (vs.getD i .non)
  | [], _, _, i, w, e => by simp at e
  | w0 :: ws, vs, r, i, w, e => by
    obtain ⟨v, q, rfl, r1, r2⟩ := r
    cases i with
    | zero => simp at e; subst e; exact r1
    | succ i => exact pick_get r2 (by simpa using e)
theorem pick_ok {S : Hp} {L : List Addr} {ws zs : List Pe.W} {vs us : List V} (r : WIss G S L ws vs) (q : WIss G S L zs us) : ∀ {arr : List Src} {xs : List Pe.W}, arr.all Src.plain = true → pickAll ws zs arr = some xs → WIss G S L xs (arrV D.v0 vs us arr)
  | [], xs, _, h => by cases h; exact rfl
  | s :: r', xs, ha, h => by
    have ha := Bool.and_eq_true_iff.mp (show (s.plain && r'.all Src.plain) = true from ha)
    have h' : (match s.pick ws zs, pickAll ws zs r' with | some w, some q => some (w :: q) | _, _ => none) = some xs := h
    split at h'
    · rename_i w q' e1 e2
      cases h'
      have ih := pick_ok r q ha.2 e2
      cases s with
      | pos i => exact ⟨_, _, rfl, pick_get r e1, ih⟩
      | kw i => exact ⟨_, _, rfl, pick_get q e1, ih⟩
      | dft d =>
        cases e1
        refine ⟨_, _, rfl, ?_, ih⟩
        have h0 := ha.1
        cases d <;> first | rfl | (cases h0; done)
    · cases h'
/-- the keywords' values -/
def SndK (G : Gx) (P : Prog) (cl : Cl) (X : Cx) (E : XK) (σ : L2.St) : List Keyword → List (Str × M) → Prop
  | [], ms => ms = []
  | ⟨nm, e, _⟩ :: r, ms => ∃ x m q, nm = some x ∧ ms = (x, m) :: q ∧ SndE G P cl X E σ e m ∧ SndK G P cl X E σ r q
theorem SndK.facts {pos : Pos} : ∀ {kws : List Keyword} {ms : List (Str × M)}, SndK G P cl X E σ kws ms → (backToKw pos (keywordEach kws X.env)).all (·.1.isSome) = true ∧ (backToKw pos (keywordEach kws X.env)).filterMap (·.1) = ms.map (·.1) ∧ (backToKw pos (keywordEach kws X.env)).any (·.1.isNone) = false
  | [], ms, h => by rw [show ms = [] from h]; exact ⟨rfl, rfl, rfl⟩
  | ⟨nm, e, kp⟩ :: r, ms, h => by
    obtain ⟨x, m, q, rfl, rfl, h1, h2⟩ := h
    obtain ⟨a, b, c⟩ := SndK.facts (pos := pos) h2
    refine ⟨?_, ?_, ?_⟩
    · show (true && (backToKw pos (keywordEach r X.env)).all (·.1.isSome)) = true
      rw [a]; rfl
    · show x :: (backToKw pos (keywordEach r X.env)).filterMap (·.1) = x :: q.map (·.1)
      rw [b]
    · show (false || (backToKw pos (keywordEach r X.env)).any (·.1.isNone)) = false
      rw [c]; rfl
def WK (X : Cx) (kws : List Keyword) : TA := fun σ H Q => ∀ pos pins s, Inv X pins σ H s → wpAny (model X.prog X.w) X.A (evalAll ((backToKw pos (keywordEach kws X.env)).map (·.2))) (AP X pins σ Q) X.xe s
theorem pkS {kws : List Keyword} : PK X kws (WK X kws) := ⟨fun pos pins s _ _ _ I h => h pos pins s I⟩
theorem WK.of {kws : List Keyword} {t : TA} {H : Hp} {Q : List V → Hp → Prop} (h : PK X kws t) (q : t σ H Q) : WK X kws σ H Q := fun pos pins s I => h.run pos pins s σ H Q I q
theorem ks_a {β : Type} {ρ : Pe.Env} : ∀ {kws : List Keyword} {ms : List (Str × M)}, SndK G P cl X E σ kws ms → ∀ {S H : Hp} {L : List Addr} {h : Cells} {R : β → Cells → Prop} {K : List Pe.W → Cells → Out β} {Q : List V → Hp → Prop}, Ok G S L h H → EnvOk G S L ρ σ →
    Post G E L S H ((evalWs P cl ρ (ms.map (·.2)) h).bind K) R →
    (∀ ws h1 vs L1 S1 H1, Step L S H L1 S1 H1 → Ok G S1 L1 h1 H1 → EnvOk G S1 L1 ρ σ → WIss G S1 L1 ws vs → Post G E L1 S1 H1 (K ws h1) R → Q vs H1) → WK X kws σ H Q
  | [], ms, hl, S, H, L, h, R, K, Q, ok, en, hp, hk => by
    rw [show ms = [] from hl] at hp
    exact WK.of pk_nil (hk [] h [] L S H Step.refl ok en rfl hp)
  | ⟨nm, e, kp⟩ :: es, ms, hl, S, H, L, h, R, K, Q, ok, en, hp, hk => by
    obtain ⟨x, m, q, rfl, rfl, h2, h3⟩ := hl
    have hp' : Post G E L S H ((evalE P cl ρ m h).toW.bind fun x h => (evalWs P cl ρ (q.map (·.2)) h).bind fun xs h => K (x :: xs) h) R := by
      have e1 : (evalWs P cl ρ (m :: q.map (·.2)) h).bind K = (evalE P cl ρ m h).toW.bind fun x h => (evalWs P cl ρ (q.map (·.2)) h).bind fun xs h => K (x :: xs) h :=
        (bind_assoc _ _ _).trans (congrArg _ (funext fun x => funext fun h => bind_assoc _ _ _))
      rw [← e1]; exact hp
    refine WK.of (pk_cons peS pkS) (one_w h2 ok en hp' fun x g1 v L1 S1 H1 st ok1 en1 r hp1 => ?_)
    exact ks_a h3 ok1 en1 hp1 fun ws g2 vs L2 S2 H2 st2 ok2 en2 r2 hp2 => hk (x :: ws) g2 (v :: vs) L2 S2 H2 (st.trans st2) ok2 en2 ⟨v, vs, rfl, r.mono st2.s st2.pre, r2⟩ hp2
theorem evalWs_len {ρ : Pe.Env} : ∀ {ms : List M} {h h' : Cells} {ws : List Pe.W}, evalWs P cl ρ ms h = .ok ws h' → ws.length = ms.length
  | [], h, h', ws, e => by cases e; rfl
  | m :: q, h, h', ws, e => by
    have e' : ((evalE P cl ρ m h).toW.bind fun x h => (evalWs P cl ρ q h).bind fun xs h => .ok (x :: xs) h) = Out.ok ws h' := e
    cases e1 : (evalE P cl ρ m h).toW with
    | ok x h1 =>
      rw [e1] at e'
      have e' : ((evalWs P cl ρ q h1).bind fun xs h => .ok (x :: xs) h) = Out.ok ws h' := e'
      cases e2 : evalWs P cl ρ q h1 with
      | ok xs h2 =>
        rw [e2] at e'
        have e' : Out.ok (x :: xs) h2 = Out.ok ws h' := e'
        cases e'
        rw [List.length_cons, List.length_cons, evalWs_len e2]
      | exc _ _ => rw [e2] at e'; cases e'
      | bad => rw [e2] at e'; cases e'
    | exc _ _ => rw [e1] at e'; cases e'
    | bad => rw [e1] at e'; cases e'
theorem evalWs_chk {β : Type} {ρ : Pe.Env} {ms : List M} {h : Cells} {K : List Pe.W → Cells → Out β} : (evalWs P cl ρ ms h).bind K = (evalWs P cl ρ ms h).bind fun ws h => if ws.length = ms.length then K ws h else .bad := by
  cases e : evalWs P cl ρ ms h with
  | ok ws h' => show K ws h' = if ws.length = ms.length then K ws h' else .bad; rw [if_pos (evalWs_len e)]
  | exc _ _ => rfl
  | bad => rfl
theorem run_kw {CX : CXT} {pins : List (Addr × Obj)} {H : Hp} {s : Shared} {C f : Addr} {fd : FuncData} {ps ks : List Str} {sp : Sp} {n : Nat} {gg : List Value → List Value → List Value} {gV : List V → List V → List V} {Q : VK} {us ws : List Value} {vs zs : List V} (M : Mk X.K C f) (F : FnOk X.prog X.w X.K X.mg X.base CX k f fd ps sp) (hr : Room (k + 1) X.A) (hb : KBn X.K fd ps (n + 1) ks gg gV) (hx : PassesAt CX X σ E) (I : Inv X pins σ H s) (r : Vals vs us) (rz : Vals zs ws) (l1 : vs.length = n) (l2 : zs.length = ks.length)
    (h : ∀ x dx, H x = Option.none → H dx = Option.none → dx ≠ x → sp (gV (V.ref x :: vs) zs) (upd (upd H dx (.own x)) x (.ins C dx [])) (fun v H2 => v = .non ∧ Q (.ref x) H2) E) :
    wpAny (model X.prog X.w) X.A (call (.ref C) us (ks.zip ws)) (EP X pins σ Q) X.xe s := by
  have hq := h (s.heap.objs.size + 1) s.heap.objs.size (I.hok.fresh (Nat.le_succ _)) (I.hok.fresh (Nat.le_refl _)) (Nat.ne_of_lt (Nat.lt_succ_self _))
  have I2 := Inv.made (C := C) I
  have rr : Vals (V.ref (s.heap.objs.size + 1) :: vs) (Value.ref (s.heap.objs.size + 1) :: us) := .cons rfl r
  have lu : (Value.ref (s.heap.objs.size + 1) :: us).length = n + 1 := by rw [List.length_cons, ← r.length, l1]
  have bt := hb.to _ _ ws I2.kIn lu (rz.length.symm.trans l2)
  refine wpAny_call (make_map (f := f) I.kIn M.makes M.init (beq_iff_eq.mp M.fn) (codeAny_mono (F.run _ X.stack _ _ ⟨_, ks.zip ws⟩ _ _ _ E (hr.make C us (ks.zip ws)) (I2.env0.make C us (ks.zip ws)) bt (hb.rel rr rz) hq) fun a s' ha => ?_))
  cases a with
  | error e => exact hx pins _ _ e s' I2 ha
  | ok fl =>
    cases fl with
    | ret u =>
      obtain ⟨v, H', I3, rv, ev, q3⟩ := I2.after ha
      subst ev
      exact ⟨rv, ⟨V.ref (s.heap.objs.size + 1), H', I3, rfl, q3⟩⟩
    | next => exact False.elim ha
    | brk => exact False.elim ha
    | cont => exact False.elim ha
theorem snd_kw {x : Str} {e : Expr} {es : List Expr} {ms : List M} {kws : List Keyword} {vms : List (Str × M)} {arr : List Src} (g : Good G N sc (k + 1) X) (cf : Cfs G P cl k) (hx : PassesAt (L2.CX X.prog X.w) X σ E) (hg : isGl sc x = true) (hl : SndL G P cl X E σ (e :: es) ms) (hkw : SndK G P cl X E σ kws vms) {d : CDef} (hc : P.cls x = some d) (ha : P.kwa x ms.length (vms.map (·.1)) = some arr)
    {ρ : Pe.Env} {S : Hp} {L : List Addr} {h : Cells} {H : Hp} {Q : VK} (ok : Ok G S L h H) (en : EnvOk G S L ρ σ) (hp : Post G E L S H ((evalWs P cl ρ ms h).bind fun ws h => (evalWs P cl ρ (vms.map (·.2)) h).bind fun zs h => match pickAll ws zs arr with
      | some us => makeK P cl x us h
      | none => .bad) (RV G L S H Q)) : WE X (.Call (.Name x p) (e :: es) kws pos) σ H Q := by
  obtain ⟨f, fd, ps, gg, gV, M, F, hb, hgv, hat⟩ := cf.kw x _ _ arr ha (by rw [hc]; rfl)
  have cF := cf.cls x d hc
  have hm' : X.mg x = some (.ref (clsAt G.mg x)) := by rw [g.mg]; exact cF.mg
  have M' : Mk X.K (clsAt G.mg x) f := by rw [g.K]; exact M
  have F' : FnOk X.prog X.w X.K X.mg X.base (L2.CX X.prog X.w) k f fd ps (spOf G cl x "__init__") := by rw [g.P, g.w, g.K, g.mg, g.base]; exact F
  have hb' : KBn X.K fd ps (ms.length + 1) (vms.map (·.1)) gg gV := by rw [g.K]; exact hb
  have hl0 := hl
  obtain ⟨m, q', rfl, e1, e2, e3⟩ := hl
  intro pins s I
  obtain ⟨k1, k2, k3⟩ := hkw.facts (pos := pos)
  have hpl : ((backTo pos (starEach (e :: es) X.env)).any (·.1) || (backToKw pos (keywordEach kws X.env)).any (·.1.isNone)) = false := by
    rw [star_plain hl0, k3]; rfl
  have key : WA X (e :: es) σ H fun vs H1 => WK X kws σ H1 fun zs H2 => vs.length = (m :: q').length ∧ zs.length = (vms.map (·.1)).length ∧ ∀ y dx, H2 y = Option.none → H2 dx = Option.none → dx ≠ y → spOf G cl x "__init__" (gV (V.ref y :: vs) zs) (upd (upd H2 dx (.own y)) y (.ins (clsAt G.mg x) dx [])) (fun v H3 => v = .non ∧ Q (.ref y) H3) E := by
    rw [evalWs_chk] at hp
    refine ws_a hl0 ok en hp fun ws h1 vs L1 S1 H1 st ok1 en1 r1 hp1 => ?_
    split at hp1
    · rename_i lw
      rw [evalWs_chk] at hp1
      refine ks_a hkw ok1 en1 hp1 fun zs h2 us L2 S2 H2 st2 ok2 en2 r2 hp2 => ?_
      split at hp2
      · rename_i lz
        split at hp2
        · rename_i xs hpk
          have r1' : WIss G S2 L2 ws vs := WIss.mono st2.s st2.pre r1
          have l1 : vs.length = (m :: q').length := r1'.len.trans lw
          have l2 : us.length = (vms.map (·.1)).length := by rw [r2.len, lz, List.length_map, List.length_map]
          refine ⟨l1, l2, fun y dx e1 e2 e3 => ?_⟩
          rw [hgv _ _ _ l1 l2]
          unfold makeK at hp2
          rw [hc] at hp2
          exact make_post (st.trans st2) ok2 (pick_ok r1' r2 hat hpk) e1 e2 e3 hp2
        · exact hp2.elim
      · exact hp2.elim
    · exact hp1.elim
  refine wpAny_Call_Name_kw (ld_glob I (g.gl hg) hm' ?_ (hdb_of hg))
  refine PySem.W.callWith_KW (h₀ := X.base) I.ok.mod.kin M'.kp k1 (thn (key pos pins s I) fun us s1 ⟨vs, H1, I1, r, q⟩ => ?_) hpl (star_cons (env := fun _ => X.env) e1)
  refine thn (q pos pins s1 I1) fun ws s2 ⟨zs, H2, I2, rz, l1, l2, q2⟩ => ⟨I2.kIn, ?_⟩
  rw [k2]
  exact run_kw M' F' g.room hb' hx I2 r rz l1 l2 q2
/-! ### isinstance -/
def Ty.name : Ty → String
  | .int => "int" | .bool => "bool" | .str => "str" | .list => "list" | .tuple => "tuple" | .dict => "dict" | .own _ => "object"
def Ty.val (G : Gx) : Ty → Value
  | .own c => .ref (clsAt G.mg c)
  | t => .type t.name
def Ty.flat : Ty → Bool
  | .own _ => false
  | _ => true
theorem kt (a b : String) (r : Bool) (h : kitB a b = some r) : kitB a b = some r := h
theorem kit_flat : ∀ (d : D) (t : Ty), flatTy d = true → t.flat = true → kitB d.ty t.name = some (isiD t d)
  | .non, .int, _, _ => kt "NoneType" "int" false (by decide +kernel)
  | .non, .bool, _, _ => kt "NoneType" "bool" false (by decide +kernel)
  | .non, .str, _, _ => kt "NoneType" "str" false (by decide +kernel)
  | .non, .list, _, _ => kt "NoneType" "list" false (by decide +kernel)
  | .non, .tuple, _, _ => kt "NoneType" "tuple" false (by decide +kernel)
  | .non, .dict, _, _ => kt "NoneType" "dict" false (by decide +kernel)
  | .bl _, .int, _, _ => kt "bool" "int" true (by decide +kernel)
  | .bl _, .bool, _, _ => kt "bool" "bool" true (by decide +kernel)
  | .bl _, .str, _, _ => kt "bool" "str" false (by decide +kernel)
  | .bl _, .list, _, _ => kt "bool" "list" false (by decide +kernel)
  | .bl _, .tuple, _, _ => kt "bool" "tuple" false (by decide +kernel)
  | .bl _, .dict, _, _ => kt "bool" "dict" false (by decide +kernel)
  | .int _, .int, _, _ => kt "int" "int" true (by decide +kernel)
  | .int _, .bool, _, _ => kt "int" "bool" false (by decide +kernel)
  | .int _, .str, _, _ => kt "int" "str" false (by decide +kernel)
  | .int _, .list, _, _ => kt "int" "list" false (by decide +kernel)
  | .int _, .tuple, _, _ => kt "int" "tuple" false (by decide +kernel)
  | .int _, .dict, _, _ => kt "int" "dict" false (by decide +kernel)
  | .str _, .int, _, _ => kt "str" "int" false (by decide +kernel)
  | .str _, .bool, _, _ => kt "str" "bool" false (by decide +kernel)
  | .str _, .str, _, _ => kt "str" "str" true (by decide +kernel)
  | .str _, .list, _, _ => kt "str" "list" false (by decide +kernel)
  | .str _, .tuple, _, _ => kt "str" "tuple" false (by decide +kernel)
  | .str _, .dict, _, _ => kt "str" "dict" false (by decide +kernel)
  | .tup _, .int, _, _ => kt "tuple" "int" false (by decide +kernel)
  | .tup _, .bool, _, _ => kt "tuple" "bool" false (by decide +kernel)
  | .tup _, .str, _, _ => kt "tuple" "str" false (by decide +kernel)
  | .tup _, .list, _, _ => kt "tuple" "list" false (by decide +kernel)
  | .tup _, .tuple, _, _ => kt "tuple" "tuple" true (by decide +kernel)
  | .tup _, .dict, _, _ => kt "tuple" "dict" false (by decide +kernel)
  | .lst _, .int, _, _ => kt "list" "int" false (by decide +kernel)
  | .lst _, .bool, _, _ => kt "list" "bool" false (by decide +kernel)
  | .lst _, .str, _, _ => kt "list" "str" false (by decide +kernel)
  | .lst _, .list, _, _ => kt "list" "list" true (by decide +kernel)
  | .lst _, .tuple, _, _ => kt "list" "tuple" false (by decide +kernel)
  | .lst _, .dict, _, _ => kt "list" "dict" false (by decide +kernel)
  | .dic _, .int, _, _ => kt "dict" "int" false (by decide +kernel)
  | .dic _, .bool, _, _ => kt "dict" "bool" false (by decide +kernel)
  | .dic _, .str, _, _ => kt "dict" "str" false (by decide +kernel)
  | .dic _, .list, _, _ => kt "dict" "list" false (by decide +kernel)
  | .dic _, .tuple, _, _ => kt "dict" "tuple" false (by decide +kernel)
  | .dic _, .dict, _, _ => kt "dict" "dict" true (by decide +kernel)
  | .ins _ _, _, h, _ => by cases h
  | .cls _, _, h, _ => by cases h
  | _, .own _, _, h => by cases h
end
end Pe
set_option maxHeartbeats 4000000
namespace Pe
open PySem PySem.Spec PyProof.Rows L2
section
variable {G : Gx} {P : Prog} {cl : Cl} {X : Cx} {E : XK} {σ : L2.St} {a b c e o : Expr} {ma mb mc mo : M} {pos apos p p2 : Pos} {N : List Str} {sc : Scope} {k : Nat}
/-! ### isinstance -/
theorem Ty.seven {t : Ty} (h : t.flat = true) : t.name ∈ sevenT := by cases t <;> first | (cases h; done) | simp [Ty.name, sevenT]
def ownIs (t : Ty) (c : Str) : Bool := match t with
  | .own q => decide (c = q)
  | _ => false
theorem isiO_own {t : Ty} {c : Str} {fs : List (Str × Pe.W)} : isiO t (.ins c fs) = ownIs t c := by cases t <;> rfl
theorem isiD_insO {t : Ty} {c : Str} {fs : List (Str × D)} : isiD t (.ins c fs) = ownIs t c := by cases t <;> rfl
def insOk (P : Prog) (o : Ob) : Bool := match o with
  | .ins c _ => (P.cls c).isSome
  | _ => true
theorem isiD_own {c : Str} {d : D} (h : flatTy d = true) : isiD (.own c) d = false := by cases d <;> first | rfl | (cases h; done)
theorem isiD_ins {t : Ty} (h : t.flat = true) {c : Str} {fs : List (Str × D)} : isiD t (.ins c fs) = false := by cases t <;> first | rfl | (cases h; done)
theorem isiO_ins {t : Ty} (h : t.flat = true) {c : Str} {fs : List (Str × Pe.W)} : isiO t (.ins c fs) = false := by cases t <;> first | rfl | (cases h; done)
/-- the value's type is told; so is whether it is the class asked for -/
theorem kit_d (cf : Cfs G P cl k) {t : Ty} (ht : tyOk P t = true) {d : D} (hd : flatTy d = true) : PySem.W.kitOne G.K (.type d.ty) (t.val G) = some (isiD t d) := by
  cases t with
  | own c =>
    obtain ⟨q, hq⟩ := Option.isSome_iff_exists.mp (show (P.cls c).isSome = true from ht)
    rw [isiD_own hd]
    exact (cf.cls c q hq).ct.kit _ (flat_mem hd)
  | _ => exact kit_ty (kit_flat d _ hd rfl)
theorem kit_own (cf : Cfs G P cl k) {t : Ty} (ht : tyOk P t = true) {c : Str} (hc : (P.cls c).isSome = true) : PySem.W.kitOne G.K (.ref (clsAt G.mg c)) (t.val G) = some (ownIs t c) := by
  obtain ⟨d, hd⟩ := Option.isSome_iff_exists.mp hc
  cases t with
  | own q =>
    obtain ⟨q', hq⟩ := Option.isSome_iff_exists.mp (show (P.cls q).isSome = true from ht)
    exact ((cf.cls q q' hq).two c d hd).1
  | _ => exact (cf.cls c d hd).kb _ (Ty.seven rfl)
theorem val_isi (g : Good G N sc (k + 1) X) (cf : Cfs G P cl k) {t : Ty} (ht : tyOk P t = true) {H0 S H : Hp} {L : List Addr} {h : Cells} {v : Val} {vv : V} {b : Bool} (ok : Ok G S L h H) (r : VIs G H0 S L H v vv) (e : v.isi P h t = some b) :
    ∃ ty, TyK X H vv ty ∧ PySem.W.kitOne X.K ty (t.val G) = some b := by
  have own : ∀ {c : Str} {a dx : Addr} {vs : List (Str × V)}, (P.cls c).isSome = true → H a = some (.ins (clsAt G.mg c) dx vs) → b = ownIs t c → ∃ ty, TyK X H (.ref a) ty ∧ PySem.W.kitOne X.K ty (t.val G) = some b := fun {c a dx vs} hc hh hb => by
    obtain ⟨d, hd⟩ := Option.isSome_iff_exists.mp hc
    refine ⟨_, ins_tyG g (cf.cls c d hd).ct hh, ?_⟩
    rw [g.K, hb]; exact kit_own cf ht hc
  have flat : ∀ {d : D} {v : V}, flatTy d = true → TyK X H v (.type d.ty) → b = isiD t d → ∃ ty, TyK X H v ty ∧ PySem.W.kitOne X.K ty (t.val G) = some b := fun {d v} hd hv hb => ⟨_, hv, by rw [g.K, hb]; exact kit_d cf ht hd⟩
  have obj : ∀ {a : Addr} {o : Ob} {ho : HO}, Rd H a ho → ((∃ c fs, o = .ins c fs) → H a = some ho) → ObIs G S L a o ho → insOk P o = true → b = isiO t o → ∃ ty, TyK X H (.ref a) ty ∧ PySem.W.kitOne X.K ty (t.val G) = some b := fun {a o ho} hr hi ob hc hb => by
    have q := ob_ty g hr ob
    cases o with
    | gone x => exact ob.elim
    | ins c fs =>
      have hi := hi ⟨c, fs, rfl⟩
      obtain ⟨dx, vs, rfl, _⟩ := ob
      refine own hc hi ?_
      rw [hb, isiO_own]
    | lst xs =>
      rcases q with ⟨_, _, z⟩ | q
      · cases z
      · exact flat (d := .lst []) rfl q (by rw [hb]; cases t <;> rfl)
    | lstR xs =>
      rcases q with ⟨_, _, z⟩ | q
      · cases z
      · exact flat (d := .lst []) rfl q (by rw [hb]; cases t <;> rfl)
    | dic xs =>
      rcases q with ⟨_, _, z⟩ | q
      · cases z
      · exact flat (d := .dic []) rfl q (by rw [hb]; cases t <;> rfl)
    | dicR xs =>
      rcases q with ⟨_, _, z⟩ | q
      · cases z
      · exact flat (d := .dic []) rfl q (by rw [hb]; cases t <;> rfl)
  cases v with
  | new o =>
    obtain ⟨a, ho, rfl, _, _, _, ha, ob, _⟩ := r
    refine obj (.inl ha) (fun _ => ha) ob ?_ ?_
    · cases o <;> first | rfl | skip
      rename_i c fs _lm
      have e' : (if (P.cls c).isSome then some (isiO t (.ins c fs)) else none) = some b := e
      split at e'
      · assumption
      · cases e'
    · cases o <;> first | (cases e; rfl) | (exact ob.elim) | skip
      rename_i c fs _lm
      have e' : (if (P.cls c).isSome then some (isiO t (.ins c fs)) else none) = some b := e
      split at e'
      · cases e'; rfl
      · cases e'
  | w w =>
    cases w with
    | d x =>
      have r' : Rp G S x vv := r
      cases x with
      | cls _ => cases e
      | ins c fs =>
        have e' : (if (P.cls c).isSome then some (isiD t (.ins c fs)) else none) = some b := e
        split at e'
        · rename_i hc
          cases e'
          obtain ⟨a, dx, vs, rfl, h2, _⟩ := r'
          exact own hc (ok.sub _ _ h2) isiD_insO
        · cases e'
      | non => cases e; exact flat rfl (rp_flat g ok r' rfl) rfl
      | bl _ => cases e; exact flat rfl (rp_flat g ok r' rfl) rfl
      | int _ => cases e; exact flat rfl (rp_flat g ok r' rfl) rfl
      | str _ => cases e; exact flat rfl (rp_flat g ok r' rfl) rfl
      | tup _ => cases e; exact flat rfl (rp_flat g ok r' rfl) rfl
      | lst _ => cases e; exact flat rfl (rp_flat g ok r' rfl) rfl
      | dic _ => cases e; exact flat rfl (rp_flat g ok r' rfl) rfl
    | r n =>
      obtain ⟨a, h1, rfl⟩ := r
      obtain ⟨⟨o, lk⟩, hc, ci⟩ := ok.at h1
      have e' : (match h[n]? with
        | some ⟨.gone _, _⟩ => none
        | some ⟨.ins c fs, lk⟩ => if !lk && (P.cls c).isSome then some (isiO t (.ins c fs)) else none
        | some ⟨o, _⟩ => some (isiO t o)
        | none => none) = some b := e
      rw [hc] at e'
      rcases ci with ⟨ho, ob, q⟩ | ⟨x, e1, _⟩
      · have hr : Rd H a ho := by
          split at q
          · exact .inr q
          · exact .inl q
        cases o with
        | gone x => exact ob.elim
        | ins c fs =>
          have e2 : (if !lk && (P.cls c).isSome then some (isiO t (.ins c fs)) else none) = some b := e'
          split at e2
          · rename_i hb
            rw [Bool.and_eq_true, Bool.not_eq_true'] at hb
            cases e2
            refine obj hr (fun _ => ?_) ob hb.2 rfl
            rw [hb.1] at q; simpa using q
          · cases e2
        | lst xs => cases e'; exact obj hr (fun ⟨_, _, z⟩ => by cases z) ob rfl rfl
        | lstR xs => cases e'; exact obj hr (fun ⟨_, _, z⟩ => by cases z) ob rfl rfl
        | dic xs => cases e'; exact obj hr (fun ⟨_, _, z⟩ => by cases z) ob rfl rfl
        | dicR xs => cases e'; exact obj hr (fun ⟨_, _, z⟩ => by cases z) ob rfl rfl
      · have e1 : o = .gone x := e1
        subst e1; cases e'
/-- the class's name as an expression -/
theorem pe_ty (g : Good G N sc (k + 1) X) (cf : Cfs G P cl k) {x : Str} (hx : isGl sc x = true) (ht : tyOk P (trTy x) = true) : ∃ v, ClsV v ((trTy x).val G) ∧ PE X (.Name x p2) (tC v) := by
  have hd := hdb_of hx
  have bl : ∀ {y : Str} {T : String}, x = y → P.free y = true → bootBuiltins y = some (.type T) → y ≠ "__name__" → PE X (.Name x p2) (tC (.ty T)) := fun {y T} e hf hb hn => by
    subst e
    exact pe_bltn (g.gl hx) (by rw [g.mg]; exact cf.free _ hf) hb rfl hn hd
  unfold trTy at ht ⊢
  by_cases h1 : x = "int"
  · rw [if_pos h1] at ht ⊢; exact ⟨_, .ty "int", bl h1 ht (by decide +kernel) (by decide)⟩
  rw [if_neg h1] at ht ⊢
  by_cases h2 : x = "bool"
  · rw [if_pos h2] at ht ⊢; exact ⟨_, .ty "bool", bl h2 ht (by decide +kernel) (by decide)⟩
  rw [if_neg h2] at ht ⊢
  by_cases h3 : x = "str"
  · rw [if_pos h3] at ht ⊢; exact ⟨_, .ty "str", bl h3 ht (by decide +kernel) (by decide)⟩
  rw [if_neg h3] at ht ⊢
  by_cases h4 : x = "list"
  · rw [if_pos h4] at ht ⊢; exact ⟨_, .ty "list", bl h4 ht (by decide +kernel) (by decide)⟩
  rw [if_neg h4] at ht ⊢
  by_cases h5 : x = "tuple"
  · rw [if_pos h5] at ht ⊢; exact ⟨_, .ty "tuple", bl h5 ht (by decide +kernel) (by decide)⟩
  rw [if_neg h5] at ht ⊢
  by_cases h6 : x = "dict"
  · rw [if_pos h6] at ht ⊢; exact ⟨_, .ty "dict", bl h6 ht (by decide +kernel) (by decide)⟩
  rw [if_neg h6] at ht ⊢
  obtain ⟨q, hq⟩ := Option.isSome_iff_exists.mp (show (P.cls x).isSome = true from ht)
  exact ⟨_, .own _, pe_glob (g.gl hx) (by rw [g.mg]; exact (cf.cls x q hq).mg) rfl hd⟩
theorem snd_isi (g : Good G N sc (k + 1) X) (cf : Cfs G P cl k) (ha : SndE G P cl X E σ a ma) (hs : notStar a = true) {x : Str} (hi : isGl sc "isinstance" = true) (hx : isGl sc x = true) : SndE G P cl X E σ (.Call (.Name "isinstance" p) [a, .Name x p2] [] pos) (.isi ma (trTy x)) := fun ρ S L h H ok en Q hp => by
  by_cases ht : tyOk P (trTy x) = true
  · obtain ⟨v, hv, pv⟩ := pe_ty (p2 := p2) g cf hx ht
    have st2 : starEach (.Name x p2 :: []) X.env = (false, eval (.Name x p2) X.env) :: starEach [] X.env := rfl
    have hp' : Post G E L S H (if tyOk P (trTy x) = true then (evalE P cl ρ ma h).bind fun v h => (match v.isi P h (trTy x) with | some b => Out.ok (vB b) h | none => Out.bad) else Out.bad) (RV G L S H Q) := hp
    rw [if_pos ht] at hp'
    refine WE.of (pe_callB cr_isi (g.gl hi) (by rw [g.mg]; exact cf.noisi) (by decide +kernel) (pa_cons peS (pa_cons pv pa_nil st2) (star_cons (env := fun _ => X.env) hs)) (by decide) (hdb_of hi) (star_cons (env := fun _ => X.env) hs) rfl) ?_
    refine one_v ha ok en hp' fun u h1 vv L1 S1 H1 st ok1 en1 r hp1 => ?_
    split at hp1
    · rename_i b hb
      obtain ⟨ty, t1, t2⟩ := val_isi g cf ht ok1 r hb
      exact ⟨vv, v, (trTy x).val G, ty, b, rfl, hv, t1, t2, rb_cmp ok1 (RV.shift st hp1)⟩
    · exact hp1.elim
  · have hp' : Post G E L S H (if tyOk P (trTy x) = true then (evalE P cl ρ ma h).bind fun v h => (match v.isi P h (trTy x) with | some b => Out.ok (vB b) h | none => Out.bad) else Out.bad) (RV G L S H Q) := hp
    rw [if_neg ht] at hp'
    exact hp'.elim
end
end Pe
set_option maxHeartbeats 4000000
namespace Pe
open PySem PySem.Spec PyProof.Rows L2
section
variable {G : Gx} {P : Prog} {cl : Cl} {X : Cx} {E : XK} {σ : L2.St} {a b c e o : Expr} {ma mb mc mo : M} {pos apos p p2 : Pos} {N : List Str} {sc : Scope} {k : Nat}
/-! ### attributes -/
theorem base_of {e : Expr} (h : notSuper e = true) (f : Str) (env : PySem.Env) : attributeBase e f env (eval e env) = eval e env := by
  unfold attributeBase
  split
  · rename_i id p0 p1
    have h' : (!(id == ("super" : Str))) = true := h
    have h2 : (id != ("super" : Str)) = true := h'
    rw [h2]
    rfl
  · rfl
theorem Rpw.look {S : Hp} {L : List Addr} : ∀ {fs : List (Str × Pe.W)} {vs : List (Str × V)}, Rpw G S L fs vs → ∀ f, (∀ x, alook fs f = some x → ∃ v, vs.lookup f = some v ∧ WIs G S L x v) ∧ (alook fs f = none → vs.lookup f = none)
  | [], vs, h, f => by rw [show vs = [] from h]; exact ⟨fun x e => by (unfold alook at e; cases e), fun _ => rfl⟩
  | (y, d) :: r, vs, h, f => by
    obtain ⟨v, q, h1, h2, h3⟩ : ∃ v q, vs = (y, v) :: q ∧ WIs G S L d v ∧ Rpw G S L r q := h
    subst h1
    have ih := Rpw.look h3 f
    unfold alook
    by_cases e : y = f
    · subst e
      simp only [if_true, List.lookup_cons, beq_self_eq_true]
      exact ⟨fun x q => by cases q; exact ⟨v, rfl, h2⟩, fun q => by cases q⟩
    · have : (f == y) = false := by simpa using fun z : f = y => e z.symm
      rw [if_neg e, List.lookup_cons, this]
      exact ih
/-- the values of an own object's fields -/
inductive OwnAt (G : Gx) (S H : Hp) (L : List Addr) (h : Cells) (c : Str) : Pe.W → Addr → Addr → List (Str × V) → Prop where
  | d {fs : List (Str × D)} {a dx : Addr} {vs : List (Str × V)} : Rpf G S fs vs → H a = some (.ins (clsAt G.mg c) dx vs) → OwnAt G S H L h c (.d (.ins c fs)) a dx vs
  | r {n : Nat} {fs : List (Str × Pe.W)} {a dx : Addr} {vs : List (Str × V)} : h[n]? = some ⟨.ins c fs, false⟩ → L[n]? = some a → Rpw G S L fs vs → H a = some (.ins (clsAt G.mg c) dx vs) → OwnAt G S H L h c (.r n) a dx vs
def AttrR (X : Cx) (f : Str) (x : V) (H : Hp) (Q : VK) : Prop :=
  (∃ a C dx fs v, x = .ref a ∧ H a = some (.ins C dx fs) ∧ Cls X.K C ∧ NoAttr X.K C f ∧ fs.lookup f = some v ∧ Q v H) ∨
  ∃ (C p g : Addr) (fd : FuncData) (ps : List Str) (sp : Sp) (a dx : Addr) (fs : List (Str × V)) (kk : Nat), x = .ref a ∧ H a = some (.ins C dx fs) ∧ Cls X.K C ∧ PropOf X.K C f p g ∧ FnOk X.prog X.w X.K X.mg X.base (L2.CX X.prog X.w) kk g fd ps sp ∧ Binds X.K fd ps [] ∧ Room (kk + 1) X.A ∧ sp [.ref a] H Q (fun _ _ _ => False)
theorem we_attr {f : Str} {σ : L2.St} {H : Hp} {Q : VK} (hb : notSuper e = true) (h : WE X e σ H fun x H1 => AttrR X f x H1 Q) : WE X (.Attribute e f pos) σ H Q := fun pins s I => by
  refine attr_of (base_of hb f X.env) (thn (h pins s I) fun u s1 ⟨x, H1, I1, rx, q⟩ => ?_)
  rcases q with ⟨a, C, dx, fs, v, ex, ea, c, n, l, q⟩ | ⟨C, p, g, fd, ps, sp, a, dx, fs, kk, ex, ea, c, pr, F, bd, hr, q⟩
  · subst ex
    obtain rfl : u = Value.ref a := rx
    exact getattr_ok I1 ea c n l fun u' s2 I2 ru => ⟨v, H1, I2, ru, q⟩
  · subst ex
    obtain rfl : u = Value.ref a := rx
    exact getpropG I1 ea c pr F hr bd passL q
theorem post_calm {L : List Addr} {S H : Hp} {α : Type} {oo : Out α} {R : α → Cells → Prop} {E' : XK} (h : Post G E L S H oo.calm R) : Post G E' L S H oo R := by
  cases oo with
  | ok a h' => exact h
  | exc x h' => exact h.elim
  | bad => exact h
theorem snd_attr (g : Good G N sc (k + 1) X) (cf : Cfs G P cl k) (ha : SndE G P cl X E σ a ma) (hs : notSuper a = true) {f : Str} : SndE G P cl X E σ (.Attribute a f pos) (.attr ma f) := fun ρ S L h H ok en Q hp =>
  we_attr hs (one_w ha ok en (K := fun x h => attrM P cl x f h) hp fun x h1 v L1 S1 H1 st ok1 en1 r hp1 => by
    -- a property's call
    have prop : ∀ {c : Str} {kd : CDef} {a dx : Addr} {vs : List (Str × V)}, P.cls c = some kd → f ∈ kd.props ∧ P.isFn c f = true → v = .ref a → H1 a = some (.ins (clsAt G.mg c) dx vs) → Post G E L1 S1 H1 (cl c f [x] h1).calm (RV G L S H Q) → AttrR X f v H1 Q := fun {c kd a dx vs} hc hf hv hh hp2 => by
      subst hv
      have cF := cf.cls c kd hc
      obtain ⟨p, g', fd, ps, pr, bd, F⟩ := cF.prop f hf.1 hf.2
      refine .inr ⟨clsAt G.mg c, p, g', fd, ps, spOf G cl c f, a, dx, vs, k, rfl, hh, by rw [g.K]; exact cF.ct.cl, by rw [g.K]; exact pr, by rw [g.P, g.w, g.K, g.mg, g.base]; exact F, by rw [g.K]; exact bd, g.room, S1, L1, h1, [x], ok1, ⟨_, _, rfl, r, rfl⟩, ?_⟩
      exact (post_calm hp2).imp fun v h' r => RV.shift st r
    unfold attrM at hp1
    split at hp1
    · rename_i c fs
      obtain ⟨a, dx, vs, hv, h2, h3⟩ := r
      have hh := ok1.sub _ _ h2
      split at hp1
      · rename_i kd hc
        split at hp1
        · rename_i hf
          split at hp1
          · rename_i z hz
            obtain ⟨w, e1, e2⟩ := (h3.look f).1 z hz
            exact .inl ⟨a, _, dx, vs, w, hv, hh, by rw [g.K]; exact (cf.cls c kd hc).ct.cl, by rw [g.K]; exact (cf.cls c kd hc).noat f hf, e1, rv_now ok1 (RV.shift st hp1) e2⟩
          · exact hp1.elim
        · split at hp1
          · rename_i hf
            exact prop hc hf hv hh hp1
          · exact hp1.elim
      · exact hp1.elim
    · rename_i n
      split at hp1
      · rename_i c fs hcell
        obtain ⟨a, hn, hv⟩ := r
        obtain ⟨ho, ob, q⟩ := (ok1.cell n a _ hn hcell).ob rfl
        obtain ⟨dx, vs, rfl, h3⟩ := ob
        have hh : H1 a = some (.ins (clsAt G.mg c) dx vs) := by simpa using q
        split at hp1
        · rename_i kd hc
          split at hp1
          · rename_i hf
            split at hp1
            · rename_i z hz
              obtain ⟨w, e1, e2⟩ := (h3.look f).1 z hz
              refine .inl ⟨a, _, dx, vs, w, hv, hh, by rw [g.K]; exact (cf.cls c kd hc).ct.cl, by rw [g.K]; exact (cf.cls c kd hc).noat f hf, e1, ?_⟩
              exact (RV.shift st hp1) L1 S1 H1 w Step.refl ok1 (norm_ok ok1 e2)
            · exact hp1.elim
          · split at hp1
            · rename_i hf
              exact prop hc hf hv hh hp1
            · exact hp1.elim
        · exact hp1.elim
      · exact hp1.elim
    · exact hp1.elim)
/-! ### methods -/
theorem call_late {prog : Program} {w : World} {A : Around} {E : Value → Shared → Prop} {s : Shared} {env : PySem.Env} {o : Expr} {name : Str} {apos pos : Pos} {args : List Expr} {Q : Value → Shared → Prop}
    (hbase : attributeBase o name env (eval o env) = eval o env)
    (hfew : ((backTo pos (starEach args env)).all (fun x => !x.1) && (backToKw pos (keywordEach [] env)).all (fun x => x.1.isSome)
      && decide (args.length + ([] : List Keyword).length + (if ([] : List Keyword).isEmpty then 0 else 1) < 30)) = true)
    (hline : (apos.endLine == pos.line) = true)
    (h : wpAny (model prog w) A (eval o env) (fun ov s₁ => ∀ pl, wpAny (model prog w) A (getMethod ov name pl) (fun z s2 => wpAny (model prog w) A (callWith pos z.1 z.2 (backTo pos (starEach args env)) []) Q E s2) E s₁) E s) :
    wpAny (model prog w) A (eval (.Call (.Attribute o name apos) args [] pos) env) Q E s := by
  rw [arm_eval_Call, hbase]
  refine wpAny_bind (wpAny_mono h (fun ov s₁ h₁ => ?_) fun _ _ e => e)
  refine wpAny_bind (wpAny_standAt ?_)
  have hform : methodCallForm (args.length + ([] : List Keyword).length) (backTo pos (starEach args env)) (backToKw pos (keywordEach [] env)) = true := hfew
  have hpos : methodCallPos true o env apos pos = pure pos := by unfold methodCallPos; simp [hline]
  unfold methodCall
  rw [hform]
  refine wpAny_bind (wpAny_holding (wpAny_mono (h₁ _) (fun z s2 h2 => ?_) fun _ _ e => e))
  exact wpAny_bind (wpAny_of_eq hpos h2)
theorem few_of {es : List Expr} {ms : List M} (hl : SndL G P cl X E σ es ms) (h : ms.length < 20) : ((backTo pos (starEach es X.env)).all (fun x => !x.1) && (backToKw pos (keywordEach [] X.env)).all (fun x => x.1.isSome) && decide (es.length + ([] : List Keyword).length + (if ([] : List Keyword).isEmpty then 0 else 1) < 30)) = true := by
  rw [star_all hl, hl.len] at *
  have : decide (es.length + ([] : List Keyword).length + (if ([] : List Keyword).isEmpty then 0 else 1) < 30) = true := decide_eq_true (by show es.length + 0 + 0 < 30; omega)
  rw [this]; rfl
/-- arguments, or none -/
def WAx (X : Cx) (es : List Expr) (σ : L2.St) (H : Hp) (R : List V → Hp → Prop) : Prop := match es with
  | [] => R [] H
  | e :: r => WA X (e :: r) σ H R
theorem ws_ax {ρ : Pe.Env} {σ : L2.St} {β : Type} {es : List Expr} {ms : List M} (hl : SndL G P cl X E σ es ms) {S H : Hp} {L : List Addr} {h : Cells} {R : β → Cells → Prop} {K : List Pe.W → Cells → Out β} {Q : List V → Hp → Prop} (ok : Ok G S L h H) (en : EnvOk G S L ρ σ)
    (hp : Post G E L S H ((evalWs P cl ρ ms h).bind K) R)
    (hk : ∀ ws h1 vs L1 S1 H1, Step L S H L1 S1 H1 → Ok G S1 L1 h1 H1 → EnvOk G S1 L1 ρ σ → WIss G S1 L1 ws vs → Post G E L1 S1 H1 (K ws h1) R → Q vs H1) : WAx X es σ H Q := by
  cases es with
  | nil =>
    have e : ms = [] := hl
    subst e
    exact hk [] h [] L S H Step.refl ok en rfl hp
  | cons e r => exact ws_a hl ok en hp hk
theorem ds_ax {ρ : Pe.Env} {σ : L2.St} {β : Type} {es : List Expr} {ms : List M} (hl : SndL G P cl X E σ es ms) {S H : Hp} {L : List Addr} {h : Cells} {R : β → Cells → Prop} {K : List D → Cells → Out β} {Q : List V → Hp → Prop} (ok : Ok G S L h H) (en : EnvOk G S L ρ σ)
    (hp : Post G E L S H ((evalDs P cl ρ ms h).bind K) R)
    (hk : ∀ ws h1 vs L1 S1 H1, Step L S H L1 S1 H1 → Ok G S1 L1 h1 H1 → EnvOk G S1 L1 ρ σ → Rps G S1 ws vs → Post G E L1 S1 H1 (K ws h1) R → Q vs H1) : WAx X es σ H Q := by
  cases es with
  | nil =>
    have e : ms = [] := hl
    subst e
    exact hk [] h [] L S H Step.refl ok en rfl hp
  | cons e r => exact ds_a hl ok en hp hk
/-- o.m(..), o of an own class -/
theorem we_meth {es : List Expr} {ms : List M} {m : Str} {σ : L2.St} {H : Hp} {Q : VK} (hl : SndL G P cl X E σ es ms) (hz : ms.length < 20) (hb : notSuper o = true) (hline : (apos.endLine == pos.line) = true) (hx : PassesAt (L2.CX X.prog X.w) X σ E)
    (h : WE X o σ H fun x H1 => ∃ (C f a dx : Addr) (fs : List (Str × V)) (sp : Sp), x = .ref a ∧ H1 a = some (.ins C dx fs) ∧ fs.lookup m = none ∧ Cls X.K C ∧ Meth X.K C m f ∧ FnR X.prog X.w X.K X.mg X.base (L2.CX X.prog X.w) k f sp ∧ Room k X.A ∧ WAx X es σ H1 fun vs H2 => sp (x :: vs) H2 Q E) :
    WE X (.Call (.Attribute o m apos) es [] pos) σ H Q := fun pins s I => by
  refine call_late (base_of hb m X.env) (few_of hl hz) hline (thn (h pins s I) fun u s1 ⟨x, H1, I1, rx, C, f, a, dx, fs, sp, ex, ea, l, c, hm, F, hr, q⟩ => fun pl => ?_)
  subst ex
  obtain rfl : u = Value.ref a := rx
  refine getmeth_ok I1 ea c hm l ?_
  cases es with
  | nil =>
    exact PySem.W.callWith_K0 (first := [.ref a]) I1.kIn hm.kp (run_fnS (us := [.ref a]) (vs := [.ref a]) F hr hx I1 (.cons rfl .nil) q)
  | cons e r =>
    obtain ⟨m', q', rfl, e1, e2, e3⟩ := hl
    exact PySem.W.callWith_K (first := [.ref a]) (h₀ := X.base) I.ok.mod.kin hm.kp (thn (q pos pins s1 I1) fun us s2 ⟨vs, H2, I2, r, q2⟩ => ⟨I2.kIn, run_fnS (us := .ref a :: us) (vs := .ref a :: vs) F hr hx I2 (.cons rfl r) q2⟩) (star_cons (env := fun _ => X.env) e1) (star_plain e3)
theorem isM_ok {c m : Str} (h : isM P c m = true) : ∃ d, P.cls c = some d ∧ P.isFn c m = true ∧ m ∉ d.props := by
  unfold isM at h
  split at h
  · rename_i d hd
    rw [Bool.and_eq_true, Bool.not_eq_true'] at h
    exact ⟨d, hd, h.1, fun z => by rw [List.contains_iff_mem.mpr z] at h; cases h.2⟩
  · cases h
theorem own_m {S H : Hp} {L : List Addr} {h : Cells} {x : Pe.W} {v : V} {m c : Str} (ok : Ok G S L h H) (r : WIs G S L x v) (e : ownM P h x m = some c) :
    (∃ d, P.cls c = some d ∧ P.isFn c m = true ∧ m ∉ d.props) ∧ ∃ a dx vs, v = .ref a ∧ H a = some (.ins (clsAt G.mg c) dx vs) ∧ vs.lookup m = none := by
  have fin : ∀ {c' : Str}, (if isM P c' m = true then some c' else none) = some c → c' = c ∧ ∃ d, P.cls c = some d ∧ P.isFn c m = true ∧ m ∉ d.props := fun {c'} e => by
    split at e
    · rename_i hb
      cases e
      exact ⟨rfl, isM_ok hb⟩
    · cases e
  unfold ownM at e
  split at e
  · rename_i c' fs
    split at e
    · cases e
    · rename_i hl
      obtain ⟨rfl, h1⟩ := fin e
      obtain ⟨a, dx, vs, hv, h3, h4⟩ := r
      exact ⟨h1, a, dx, vs, hv, ok.sub _ _ h3, (h4.look m).2 hl⟩
  · rename_i n
    split at e
    · rename_i c' fs hc
      split at e
      · cases e
      · rename_i hl
        obtain ⟨rfl, h1⟩ := fin e
        obtain ⟨a, hn, hv⟩ := r
        obtain ⟨ho, ob, q⟩ := (ok.cell n a _ hn hc).ob rfl
        obtain ⟨dx, vs, rfl, h3⟩ := ob
        exact ⟨h1, a, dx, vs, hv, by simpa using q, (h3.look m).2 hl⟩
    · cases e
  · cases e
theorem snd_meth (g : Good G N sc (k + 1) X) (cf : Cfs G P cl k) (hx : PassesAt (L2.CX X.prog X.w) X σ E) (ho : SndE G P cl X E σ o mo) {es : List Expr} {ms : List M} {m : Str} (hl : SndL G P cl X E σ es ms) (hz : ms.length < 20) (hb : notSuper o = true) (hline : (apos.endLine == pos.line) = true) :
    SndE G P cl X E σ (.Call (.Attribute o m apos) es [] pos) (.meth mo m ms) := fun ρ S L h H ok en Q hp =>
  we_meth (k := k) hl hz hb hline hx (one_w ho ok en (K := fun x h => match ownM P h x m with
    | some c => (evalWs P cl ρ ms h).bind fun ws h => cl c m (x :: ws) h
    | none => .bad) hp fun x h1 v L1 S1 H1 st ok1 en1 r hp1 => by
    split at hp1
    · rename_i c hc
      obtain ⟨⟨d, hd, h3, h4⟩, a, dx, vs, hv, hh, hlk⟩ := own_m ok1 r hc
      have cF := cf.cls c d hd
      obtain ⟨f, me, F⟩ := cF.meth m h3 h4
      refine ⟨clsAt G.mg c, f, a, dx, vs, spOf G cl c m, hv, hh, hlk, by rw [g.K]; exact cF.ct.cl, by rw [g.K]; exact me, g.fnr F, g.room.mono (Nat.le_succ k), ?_⟩
      exact ws_ax hl ok1 en1 hp1 fun ws h2 us L2 S2 H2 st2 ok2 en2 r2 hp2 => ⟨S2, L2, h2, x :: ws, ok2, ⟨v, us, rfl, r.mono st2.s st2.pre, r2⟩, hp2.imp fun _ _ q => RV.shift (st.trans st2) q⟩
    · exact hp1.elim)
/-- o.m(..), o a list or a dict -/
def BTy (X : Cx) (T : String) (x : V) (H : Hp) : Prop := ∀ pins σ s v, Inv X pins σ H s → L2.RelV x v → s.TypeIs v T ∧ ∀ a, v = .ref a → ∃ ob, s.heap.get? a = some ob ∧ ob.dict = none
theorem we_bm {es : List Expr} {ms : List M} {m : Str} {σ : L2.St} {H : Hp} {Q : VK} (hl : SndL G P cl X E σ es ms) (hz : ms.length < 20) (hb : notSuper o = true) (hline : (apos.endLine == pos.line) = true)
    (h : WE X o σ H fun x H1 => ∃ (T id : String) (r : V → List V → Hp → VK → Prop), BTy X T x H1 ∧ PlainAttrs T ∧ Slot T m id ∧ typeOf (.builtin id) = pure (.type "method_descriptor") ∧ MtR X id r ∧ WAx X es σ H1 fun vs H2 => r x vs H2 Q) :
    WE X (.Call (.Attribute o m apos) es [] pos) σ H Q := fun pins s I => by
  refine call_late (base_of hb m X.env) (few_of hl hz) hline (thn (h pins s I) fun u s1 ⟨x, H1, I1, rx, T, id, r, ty, pa, slot, hty, hm, q⟩ => fun pl => ?_)
  obtain ⟨h1, h2⟩ := ty _ _ _ _ I1 rx
  refine getMethod_builtin h1 pa slot hty h2 ?_
  cases es with
  | nil => exact Calls.callWith_builtin rfl (PySem.evalArgs_none (hm pins s1 σ H1 x [] u [] Q I1 rx .nil q))
  | cons e rr =>
    obtain ⟨m', q', rfl, e1, e2, e3⟩ := hl
    have hs := star_cons (env := fun _ => X.env) (es := rr) (v := X.env) e1
    have hA := q pos pins s1 I1
    rw [hs] at hA ⊢
    refine Calls.callWith_builtin (by show (false || (backTo pos (starEach rr X.env)).any (·.1)) = false; rw [star_plain e3] <;> rfl) (Calls.evalArgs_plain ?_)
    exact thn hA fun us s2 ⟨vs, H2, I2, r2, q2⟩ => hm pins s2 σ H2 x vs u us Q I2 rx r2 q2
theorem list_ext_any (l : Addr) (items : Array Value) (n : Nat) (b : Addr) (items2 : Array Value) (n2 : Nat) (sl : Array (Option Value)) (hs0 : ¬(!items.isEmpty && Builtin.List.listTooLong (items.size + items2.size)) = true) (hs1 : items.size ≤ sizeLine) (hs2 : items.size + items2.size ≤ sizeLine + 1) :
    Meets (Builtin.«list.extend» ⟨[.ref l, .ref b], []⟩) (fun _ R s => s.heap.get? l = some { cls := .type "list", dict := none, data := .seq items n, slots := #[] } ∧ s.heap.get? b = some { cls := .type "list", dict := none, data := .seq items2 n2, slots := sl } ∧ R (.ok (.ret Value.none)) { s with heap := s.heap.update l (Obj.mapSeq fun x => x ++ items2), toks := s.toks }) :=
  .of_wp fun prog w A R s h => by
    obtain ⟨hp, g, d, tk, os⟩ := s; obtain ⟨hl, hb, h⟩ := h; have f1 := AutoSeq1.idx_int; have f2 := AutoSeq1.sub_tuple_tuple; have f3 := AutoSeq1.sub_list_list; have f4 := AutoSeq1.sub_tuple_list; have f5 := AutoSeq1.sub_list_tuple;
    have hz' : (items ++ items2).size ≤ sizeLine + 1 := by rw [Array.size_append]; exact hs2
    wp_walk using (wpAny_updateSeq hl rfl (hz := hs1) (_hz' := hz')), AutoSeq1.wpAny_loadPart' hl, AutoSeq1.wpAny_loadPart' hb; exact ⟨_, rfl, h⟩
def rExtendS (K : PySem.W.Frag) : V → List V → Hp → VK → Prop := fun x vs H Q => ∃ l b xs zs, x = .ref l ∧ vs = [.ref b] ∧ H l = some (.lst xs) ∧ SqL K H b zs ∧ xs.length + zs.length ≤ sizeLine ∧ Q .non (upd H l (.lst (xs ++ zs)))
theorem mt_extendS : MtM X "list.extend" (rExtendS X.K) := by
  intro pins s σ H x vs v us Q I rx rv h
  obtain ⟨l, b, xs, zs, rfl, rfl, hH, hB, hz, q⟩ := h
  cases rx
  obtain ⟨u, rfl, ru⟩ := rv.one
  cases ru
  obtain ⟨z, its, n, r, hl, e⟩ := I.lstM hH
  obtain ⟨its2, r2, ⟨⟨oc2, od2, odt2, osl2⟩, n2, e2, oc3, od3, odd2⟩, _⟩ := I.list hB
  have hl2 := r2.length
  simp only at oc3 od3 odd2
  subst oc3 od3 odd2
  have hsz : its.toArray.size + its2.toArray.size ≤ sizeLine := by rw [List.size_toArray, List.size_toArray]; omega
  have hlong : ¬ (!its.toArray.isEmpty && Builtin.List.listTooLong (its.toArray.size + its2.toArray.size)) = true := by
    rw [notLongL hsz, Bool.and_false]
    exact Bool.false_ne_true
  refine call_meets F.slot_list_extend ⟨_, e, rfl⟩ F.entry_list_extend (F.args_list_extend_2 _ _)
    (list_ext_any l its.toArray n b its2.toArray n2 osl2 hlong (by rw [List.size_toArray]; omega) (by omega)) ⟨e, e2, ?_⟩
  refine ⟨.non, _, I.lset (its' := its ++ its2) hH e (by simp) (r.append r2) ?_, rfl, q⟩
  rw [List.length_append]
  omega
theorem list_bty {H : Hp} {a : Addr} {ys : List V} (h : SqL X.K H a ys) : BTy X "list" (.ref a) H := fun pins σ s v I r => tyV_is I r (.inl ⟨rfl, ys, h⟩)
theorem dic_bty (g : Good G N sc k X) {H : Hp} {a : Addr} {l : List DE} (h : Rd H a (dicO G.w a l)) : BTy X "dict" (.ref a) H := fun pins σ s v I r => by
  cases (show v = Value.ref a from r)
  have h2' : Rd H a (dicO X.w a l) := by rw [g.w]; exact h
  obtain ⟨_, _, es, ep, ⟨o, ho, hc, _⟩, _⟩ := dic_rd I h2'
  exact ⟨⟨o, ho, hc.1⟩, fun b e => by cases e; exact ⟨o, ho, hc.2.1⟩⟩
theorem lod_ty (g : Good G N sc k X) {S H : Hp} {L : List Addr} {h : Cells} {x : Pe.W} {v : V} {t : Bool} (ok : Ok G S L h H) (r : WIs G S L x v) (e : x.lod h = some t) : BTy X (if t = true then "list" else "dict") v H := by
  have hd : ∀ {d : D}, (d = .lst (match d with | .lst xs => xs | _ => []) ∧ t = true) ∨ (d = .dic (match d with | .dic xs => xs | _ => []) ∧ t = false) → Vw G S H d v → BTy X (if t = true then "list" else "dict") v H := fun {d} hd hv => by
    rcases hd with ⟨e1, rfl⟩ | ⟨e1, rfl⟩
    · rw [e1] at hv
      obtain ⟨a, ys, rfl, h2, _⟩ := hv
      exact list_bty (by rw [g.K]; exact h2)
    · rw [e1] at hv
      obtain ⟨a, l, rfl, h2, _⟩ := hv
      exact dic_bty g h2
  cases x with
  | d d =>
    cases d <;> first | (cases e; done) | skip
    · cases e; exact hd (.inl ⟨rfl, rfl⟩) (rp_vw ok r)
    · cases e; exact hd (.inr ⟨rfl, rfl⟩) (rp_vw ok r)
  | r n =>
    have e' : (match h[n]? with | some ⟨.lst _, _⟩ => some true | some ⟨.dic _, _⟩ => some false | _ => none) = some t := e
    split at e'
    · rename_i xs lk hc
      cases e'
      exact hd (d := .lst xs) (.inl ⟨rfl, rfl⟩) (rd_vw ok r (by show rdC h n = _; unfold rdC; rw [hc]; cases lk <;> rfl))
    · rename_i xs lk hc
      cases e'
      exact hd (d := .dic xs) (.inr ⟨rfl, rfl⟩) (rd_vw ok r (by show rdC h n = _; unfold rdC; rw [hc]; cases lk <;> rfl))
    · cases e'
/-- a cell's object is changed -/
theorem put_now {S H : Hp} {L : List Addr} {h : Cells} {n : Nat} {a : Addr} {o o' : Ob} {ho ho' : HO} {z : D} {zv : V} {Q : VK} (ok : Ok G S L h H) (hn : L[n]? = some a) (hc : h[n]? = some ⟨o, false⟩) (ob : ObIs G S L a o ho) (hh : H a = some ho) (ob' : ObIs G S L a o' ho') (lm : o'.lim n = true) (rz : Rp G S z zv) (q : RV G L S H Q (vD z) (h.set n ⟨o', false⟩)) : Q zv (upd H a ho') :=
  q L S _ _ (Step.put hn hh ob.kind.2) (ok.put hn hc ob.liv ob' lm rfl) rz
theorem lst_cell {S H : Hp} {L : List Addr} {h : Cells} {n : Nat} {v : V} {xs : List D} (ok : Ok G S L h H) (r : WIs G S L (.r n) v) (hc : h[n]? = some ⟨.lst xs, false⟩) : ∃ a ys, L[n]? = some a ∧ v = .ref a ∧ H a = some (.lst ys) ∧ Rps G S xs ys := by
  obtain ⟨a, hn, hv⟩ := r
  obtain ⟨ho, ⟨ys, rfl, rs⟩, q⟩ := (ok.cell n a _ hn hc).ob rfl
  exact ⟨a, ys, hn, hv, by simpa using q, rs⟩
theorem rps_drop {S : Hp} {xs : List D} {ys : List V} (r : Rps G S xs ys) : Rps G S xs.dropLast ys.dropLast := by
  rw [List.dropLast_eq_take, List.dropLast_eq_take, r.len]; exact r.take _
/-- what a method does, by the values -/
def BmOk (G : Gx) (X : Cx) (m : Str) : Prop := ∀ t : Bool, bmHas m t = true → ∃ (T id : String) (r : V → List V → Hp → VK → Prop), T = (if t = true then "list" else "dict") ∧ PlainAttrs T ∧ Slot T m id ∧ typeOf (.builtin id) = pure (.type "method_descriptor") ∧ MtR X id r ∧
    ∀ {S H : Hp} {L : List Addr} {h : Cells} {x : Pe.W} {v : V} {ds : List D} {us : List V} {Q : VK} {E : XK} {R : Val → Cells → Prop}, Ok G S L h H → WIs G S L x v → Rps G S ds us → x.lod h = some t → Post G E L S H (bmM x m ds h) R → (∀ z h', R z h' → RV G L S H Q z h') → r v us H Q
theorem lod_lst {h : Cells} {n : Nat} {t : Bool} {xs : List D} {lk : Bool} (e : (Pe.W.r n).lod h = some t) (hc : h[n]? = some ⟨.lst xs, lk⟩) : t = true := by
  have e' : (match h[n]? with | some ⟨.lst _, _⟩ => some true | some ⟨.dic _, _⟩ => some false | _ => none) = some t := e
  rw [hc] at e'; cases e'; rfl
theorem lod_dic {h : Cells} {n : Nat} {t : Bool} {xs : List (D × D)} {lk : Bool} (e : (Pe.W.r n).lod h = some t) (hc : h[n]? = some ⟨.dic xs, lk⟩) : t = false := by
  have e' : (match h[n]? with | some ⟨.lst _, _⟩ => some true | some ⟨.dic _, _⟩ => some false | _ => none) = some t := e
  rw [hc] at e'; cases e'; rfl
theorem bm_append : BmOk G X "append" := fun t ht => by
  cases t with
  | false =>
    exact absurd ht (by decide)
  | true =>
    refine ⟨"list", "list.append", rAppend, rfl, PySem.F.plainAttrs_list, PySem.F.slot_list_append, PySem.F.type_list_append, mt_append, fun {S H L h x v ds us Q E R} ok r rs e hp k => ?_⟩
    unfold bmM at hp
    rw [if_pos rfl] at hp
    split at hp
    · rename_i n d
      split at hp
      · rename_i xs hc
        split at hp
        · rename_i hz
          obtain ⟨a, ys, hn, rfl, hh, r1⟩ := lst_cell ok r hc
          obtain ⟨u, q, rfl, r2, r3⟩ := rs
          have r3 : q = [] := r3
          subst r3
          exact ⟨a, ys, u, rfl, rfl, hh, by rw [r1.len]; exact hz, put_now ok hn hc (z := .non) (o' := .lst (xs ++ [d])) ⟨ys, rfl, r1⟩ hh ⟨_, rfl, r1.snoc r2⟩ rfl rfl (k _ _ hp)⟩
        · exact hp.elim
      · exact hp.elim
    · exact hp.elim
theorem bm_extend (g : Good G N sc k X) : BmOk G X "extend" := fun t ht => by
  cases t with
  | false =>
    exact absurd ht (by decide)
  | true =>
    refine ⟨"list", "list.extend", rExtendS X.K, rfl, PySem.F.plainAttrs_list, PySem.F.slot_list_extend, PySem.F.type_list_extend, mt_extendS, fun {S H L h x v ds us Q E R} ok r rs e hp k => ?_⟩
    unfold bmM at hp
    rw [if_neg (by decide), if_pos rfl] at hp
    split at hp
    · rename_i n zs
      split at hp
      · rename_i xs hc
        split at hp
        · rename_i hz
          obtain ⟨a, ys, hn, rfl, hh, r1⟩ := lst_cell ok r hc
          obtain ⟨u, q, rfl, ⟨b, ws, rfl, hb, r2⟩, r3⟩ := rs
          have r3 : q = [] := r3
          subst r3
          exact ⟨a, b, ys, ws, rfl, rfl, hh, by rw [g.K]; exact ext_sq ok.sub hb, by rw [r1.len, r2.len]; exact hz, put_now ok hn hc (z := .non) (o' := .lst (xs ++ zs)) ⟨ys, rfl, r1⟩ hh ⟨_, rfl, r1.app r2⟩ rfl rfl (k _ _ hp)⟩
        · exact hp.elim
      · exact hp.elim
    · exact hp.elim
theorem bm_clear (g : Good G N sc k X) : BmOk G X "clear" := fun t ht => by
  cases t with
  | false =>
    refine ⟨"dict", "dict.clear", _, rfl, PySem.F.plainAttrs_dict, PySem.F.slot_dict_clear, PySem.F.type_dict_clear, mt_clear_dic, fun {S H L h x v ds us Q E R} ok r rs e hp k => ?_⟩
    unfold bmM at hp
    rw [if_neg (by decide), if_neg (by decide), if_pos rfl] at hp
    split at hp
    · rename_i n
      have rs : us = [] := rs
      subst rs
      split at hp
      · rename_i hc; cases lod_lst e hc
      · rename_i kvs hc
        obtain ⟨a, hn, hv⟩ := r
        obtain ⟨ho, ⟨l, rfl, rs, nd⟩, q⟩ := (ok.cell n a _ hn hc).ob rfl
        have q : H a = some (dicO G.w a l) := by simpa using q
        exact ⟨a, l, hv, rfl, by rw [g.w]; exact q, by rw [g.w]; exact put_now ok hn hc (z := .non) (o' := .dic []) ⟨l, rfl, rs, nd⟩ q ⟨[], rfl, rfl, List.nodup_nil⟩ rfl rfl (k _ _ hp)⟩
      · exact hp.elim
    · exact hp.elim
  | true =>
    refine ⟨"list", "list.clear", rClear, rfl, PySem.F.plainAttrs_list, PySem.F.slot_list_clear, PySem.F.type_list_clear, mt_clear, fun {S H L h x v ds us Q E R} ok r rs e hp k => ?_⟩
    unfold bmM at hp
    rw [if_neg (by decide), if_neg (by decide), if_pos rfl] at hp
    split at hp
    · rename_i n
      have rs : us = [] := rs
      subst rs
      split at hp
      · rename_i xs hc
        obtain ⟨a, ys, hn, rfl, hh, r1⟩ := lst_cell ok r hc
        exact ⟨a, ys, rfl, rfl, hh, put_now ok hn hc (z := .non) (o' := .lst []) ⟨ys, rfl, r1⟩ hh ⟨_, rfl, rfl⟩ rfl rfl (k _ _ hp)⟩
      · rename_i hc; cases lod_dic e hc
      · exact hp.elim
    · exact hp.elim
theorem bm_pop : BmOk G X "pop" := fun t ht => by
  cases t with
  | false =>
    exact absurd ht (by decide)
  | true =>
    refine ⟨"list", "list.pop", rPop, rfl, PySem.F.plainAttrs_list, PySem.F.slot_list_pop, PySem.F.type_list_pop, mt_pop, fun {S H L h x v ds us Q E R} ok r rs e hp k => ?_⟩
    unfold bmM at hp
    rw [if_neg (by decide), if_neg (by decide), if_neg (by decide), if_pos rfl] at hp
    split at hp
    · rename_i n
      have rs : us = [] := rs
      subst rs
      split at hp
      · rename_i xs hc
        obtain ⟨a, ys, hn, rfl, hh, r1⟩ := lst_cell ok r hc
        split at hp
        · rename_i y hy
          obtain ⟨u, e1, e2⟩ := r1.get hy
          exact ⟨a, ys, u, rfl, rfl, hh, by rw [r1.len]; exact e1, put_now ok hn hc (o' := .lst xs.dropLast) ⟨ys, rfl, r1⟩ hh ⟨_, rfl, rps_drop r1⟩ rfl e2 (k _ _ hp)⟩
        · exact hp.elim
      · exact hp.elim
    · exact hp.elim
theorem bm_get (g : Good G N sc k X) : BmOk G X "get" := fun t ht => by
  have hu : X.A.units + 9 < cLine := by have := g.room.un; omega
  have un : ∀ {x : Pe.W} {ds : List D} {h : Cells}, bmM x "get" ds h = match x.rd h with
    | some (.dic kvs) => match getD kvs ds with
      | some v => .ok v h
      | none => .bad
    | _ => .bad := fun {x ds h} => by
    unfold bmM
    rw [if_neg (by decide), if_neg (by decide), if_neg (by decide), if_neg (by decide), if_pos rfl]
    try rfl
  have kind : ∀ {x : Pe.W} {h : Cells} {kvs : List (D × D)}, x.lod h = some t → x.rd h = some (.dic kvs) → t = false := fun {x h kvs} e e1 => by
    cases x with
    | d d => cases e1; cases e; rfl
    | r n =>
      have e1' : rdC h n = some (.dic kvs) := e1
      unfold rdC at e1'
      split at e1'
      · rename_i c hc
        have e' : (match h[n]? with | some ⟨.lst _, _⟩ => some true | some ⟨.dic _, _⟩ => some false | _ => none) = some t := e
        rw [hc] at e'
        obtain ⟨o, lk⟩ := c
        cases o with
        | lst xs => cases lk <;> cases e1'
        | dic xs => cases e'; rfl
        | _ => cases e'
      · cases e1'
  cases t with
  | true =>
    exact absurd ht (by decide)
  | false =>
    refine ⟨"dict", "dict.get", _, rfl, PySem.F.plainAttrs_dict, PySem.F.slot_dict_get, PySem.F.type_dict_get, (mt_get_dic hu).or (mt_getD_dic hu), fun {S H L h x v ds us Q E R} ok r rs e hp k => ?_⟩
    rw [un] at hp
    split at hp
    · rename_i kvs e1
      split at hp
      · rename_i z hz
        unfold getD at hz
        split at hz
        · rename_i kd
          obtain ⟨u, q, rfl, r2, r3⟩ := rs
          have r3 : q = [] := r3
          subst r3
          split at hz
          · rename_i kk hk
            cases hz
            obtain ⟨a, o, rfl, dl, h1, h2⟩ := in_dic_look (x := .d kd) g ok r2 r rfl e1 hk
            refine .inl ⟨a, u, o, rfl, rfl, dl, rv_now ok (k _ _ hp) ?_⟩
            cases q : dget kvs kk with
            | none => rw [q] at h1; cases o with
              | none => exact rfl
              | some _ => cases h1
            | some zz => obtain ⟨w, rfl, rw⟩ := h2 zz q; exact rw
          · cases hz
        · rename_i kd zd
          obtain ⟨u, q, rfl, r2, u2, q2, rfl, r4, r5⟩ := rs
          have r5 : q2 = [] := r5
          subst r5
          split at hz
          · rename_i kk hk
            cases hz
            obtain ⟨a, o, rfl, dl, h1, h2⟩ := in_dic_look (x := .d kd) g ok r2 r rfl e1 hk
            refine .inr ⟨a, u, u2, o, rfl, rfl, dl, rv_now ok (k _ _ hp) ?_⟩
            cases q : dget kvs kk with
            | none => rw [q] at h1; cases o with
              | none => exact r4
              | some _ => cases h1
            | some zz => obtain ⟨w, rfl, rw⟩ := h2 zz q; exact rw
          · cases hz
        · cases hz
      · exact hp.elim
    · exact hp.elim
theorem bm_all (g : Good G N sc k X) {m : Str} (hm : isBm m = true) : BmOk G X m := by
  unfold isBm at hm
  simp only [Bool.or_eq_true, beq_iff_eq] at hm
  rcases hm with (((rfl | rfl) | rfl) | rfl) | rfl
  · exact bm_append
  · exact bm_extend g
  · exact bm_clear g
  · exact bm_pop
  · exact bm_get g
def bmBody (P : Prog) (cl : Cl) (ρ : Pe.Env) (ms : List M) (m : Str) (x : Pe.W) (h1 : Cells) : Out Val := match x.lod h1 with
  | some t => if bmHas m t = true then (evalDs P cl ρ ms h1).bind fun ds h => if x.lod h = some t then bmM x m ds h else .bad else .bad
  | none => .bad
theorem bm_core (g : Good G N sc (k + 1) X) {es : List Expr} {ms : List M} {m : Str} (hm : isBm m = true) (hl : SndL G P cl X E σ es ms) {ρ : Pe.Env} {S1 H1 : Hp} {L1 : List Addr} {h1 : Cells} {x : Pe.W} {v : V} {R : Val → Cells → Prop} {Q : VK} (ok1 : Ok G S1 L1 h1 H1) (en1 : EnvOk G S1 L1 ρ σ) (r : WIs G S1 L1 x v)
    (hp1 : Post G E L1 S1 H1 (bmBody P cl ρ ms m x h1) R) (kq : ∀ L2 S2 H2, Step L1 S1 H1 L2 S2 H2 → ∀ z h', R z h' → RV G L2 S2 H2 Q z h') :
    ∃ (T id : String) (r : V → List V → Hp → VK → Prop), BTy X T v H1 ∧ PlainAttrs T ∧ Slot T m id ∧ typeOf (.builtin id) = pure (.type "method_descriptor") ∧ MtR X id r ∧ WAx X es σ H1 fun vs H2 => r v vs H2 Q := by
  unfold bmBody at hp1
  split at hp1
  · rename_i t ht
    split at hp1
    · rename_i hb
      obtain ⟨T, id, rr, rfl, pa, sl, hty, mt, kk⟩ := bm_all g hm t hb
      refine ⟨_, id, rr, lod_ty g ok1 r ht, pa, sl, hty, mt, ds_ax hl ok1 en1 hp1 fun ds h2 us L2 S2 H2 st2 ok2 en2 r2 hp2 => ?_⟩
      split at hp2
      · rename_i h2t
        exact kk ok2 (r.mono st2.s st2.pre) r2 h2t hp2 (kq L2 S2 H2 st2)
      · exact hp2.elim
    · exact hp1.elim
  · exact hp1.elim
theorem Step.cutTo {L L1 L' : List Addr} {S H S1 H1 S' H' : Hp} (st : Step L S H L1 S1 H1) (tot : Step L S H L' S' H') : Step L S H L1 S' H' := ⟨st.l, tot.s, tot.k, tot.f, tot.z, tot.t⟩
theorem snd_bm (g : Good G N sc (k + 1) X) (ho : SndE G P cl X E σ o mo) {es : List Expr} {ms : List M} {m : Str} (hm : isBm m = true) (hl : SndL G P cl X E σ es ms) (hz : ms.length < 20) (hb : notSuper o = true) (hline : (apos.endLine == pos.line) = true) :
    SndE G P cl X E σ (.Call (.Attribute o m apos) es [] pos) (.bm mo m ms) := fun ρ S L h H ok en Q hp => by
  have hp' : Post G E L S H ((evalE P cl ρ mo h).bind fun v h => (tmpM v h).bind fun x h1 => (bmBody P cl ρ ms m x h1).cutV (tmpN v h)) (RV G L S H Q) := hp
  refine we_bm hl hz hb hline (ho ρ S L h H ok en _ (hp'.bind.imp fun v h1 q L1 S1 H1 vv st ok1 hv => ?_))
  cases v with
  | w x =>
    have q' : Post G E L S H (bmBody P cl ρ ms m x h1) (RV G L S H Q) := q
    exact bm_core g hm hl ok1 (en.step st) hv (q'.sh st) fun L2 S2 H2 st2 z h' q => RV.shift (st.trans st2) q
  | new ob =>
    obtain ⟨a, hobj, rfl, h0, hs, hl', ha, hob, lm⟩ := hv
    have q' : Post G E L S H ((if ob.liv = true then (.ok (.r h1.length) (h1 ++ [⟨ob, false⟩]) : Out Pe.W) else .bad).bind fun x h2 => (bmBody P cl ρ ms m x h2).cutV (some h1.length)) (RV G L S H Q) := q
    rw [if_pos hob.liv] at q'
    have q2 : Post G E L S H ((bmBody P cl ρ ms m (.r h1.length) (h1 ++ [⟨ob, false⟩])).cutV (some h1.length)) (RV G L S H Q) := q'
    have lm' : ob.lim h1.length = true := by rw [← ok1.len]; exact lm
    have okp := ok1.push ha hs hl' hob lm'
    have stp : Step L S H (L1 ++ [a]) S1 H1 := st.push h0
    have hn : (L1 ++ [a])[h1.length]? = some a := by rw [← ok1.len, List.getElem?_append_right (Nat.le_refl _), Nat.sub_self]; rfl
    -- later on, the cell forgotten
    have back : ∀ {L' : List Addr} {S' H' : Hp} {h' : Cells}, Step (L1 ++ [a]) S1 H1 L' S' H' → Ok G S' L' h' H' → Step L S H L1 S' H' ∧ Ok G S' L1 (h'.take h1.length) H' := fun {L' S' H' h'} s2 o2 => by
      refine ⟨st.cutTo (stp.trans s2), ?_⟩
      have e : L'.take h1.length = L1 := by
        obtain ⟨M', e, _⟩ := s2.l
        rw [e, ← ok1.len, List.append_assoc, List.take_left]
      have := o2.cut h1.length
      rw [e] at this
      exact this
    have en1 : EnvOk G S1 (L1 ++ [a]) ρ σ := en.step stp
    refine bm_core g hm hl okp en1 (x := .r h1.length) ⟨a, hn, rfl⟩ (R := fun z h' => ∃ d, z = vD d ∧ RV G L S H Q (vD d) (h'.take h1.length)) ?_ fun L2 S2 H2 st2 z h' ⟨d, e1, e2⟩ L' S' H' u s3 o3 hu => ?_
    · revert q2
      generalize bmBody P cl ρ ms m (.r h1.length) (h1 ++ [⟨ob, false⟩]) = oo
      intro q2
      cases oo with
      | bad => exact q2
      | exc x h' => exact fun L' S' H' cls d s2 o2 hx => let ⟨s3, o3⟩ := back s2 o2; q2 L1 S' H' cls d s3 o3 hx
      | ok z h' =>
        cases z with
        | new _ => exact q2.elim
        | w w =>
          cases w with
          | r _ => exact q2.elim
          | d d => exact ⟨d, rfl, q2⟩
    · subst e1
      obtain ⟨s4, o4⟩ := back (st2.trans s3) o3
      exact e2 L1 S' H' u s4 o4 hu
end
end Pe
set_option maxHeartbeats 4000000
namespace Pe
open PySem PySem.Spec PyProof.Rows L2
/-! ### repr of a dict of flat values; max with a default -/
section
variable {G : Gx} {X : Cx} {pins : List (Addr × Obj)} {σ : L2.St} {S H : Hp} {s : Shared}
mutual
theorem rp_reads (I : Inv X pins σ H s) (hK : X.K = G.K) (sub : Ext S H) : ∀ (d : D) (v : V) (u : Value) (q : PyData), d.pf = some q → Rp G S d v → L2.RelV v u → Reads s.heap u q []
  | .non, v, u, q, e, h, r => by
    cases e
    rw [show v = .non from h] at r
    rw [show u = Value.none from r]; exact .none
  | .bl b, v, u, q, e, h, r => by
    cases e
    rw [show v = .bl b from h] at r
    rw [show u = Value.bool b from r]; exact .bool b
  | .int i, v, u, q, e, h, r => by
    cases e
    rw [show v = .int i from h] at r
    obtain ⟨t, rfl⟩ : ∃ t, u = Value.int i t := r
    exact .int i t
  | .str x, v, u, q, e, h, r => by
    cases e
    rw [show v = .str x from h] at r
    obtain ⟨t, rfl⟩ : ∃ t, u = Value.str x t := r
    exact .str x t
  | .tup xs, v, u, q, e, h, r => by
    obtain ⟨qs, e1, rfl⟩ := Option.map_eq_some_iff.mp (show (D.pfs xs).map PyData.tuple = some q from e)
    obtain ⟨a, ys, h1, h2, h3⟩ : ∃ a ys, v = .ref a ∧ TupA G.K S a ys ∧ Rps G S xs ys := h
    rw [h1] at r
    rw [show u = Value.ref a from r]
    have h2' : TupA X.K H a ys := by rw [hK]; exact h2.imp (sub _ _) fun z => z
    obtain ⟨its, rv, ⟨ob, e1', e2, n, e3⟩, _⟩ := I.tuple h2'.sq
    exact .tuple e1' e2 e3 (by simpa using rps_reads I hK sub xs ys its qs e1 h3 rv)
  | .lst _, _, _, _, e, _, _ => by cases e
  | .dic _, _, _, _, e, _, _ => by cases e
  | .ins _ _, _, _, _, e, _, _ => by cases e
  | .cls _, _, _, _, e, _, _ => by cases e
theorem rps_reads (I : Inv X pins σ H s) (hK : X.K = G.K) (sub : Ext S H) : ∀ (ds : List D) (vs : List V) (us : List Value) (qs : List PyData), D.pfs ds = some qs → Rps G S ds vs → Vals vs us → ReadsAll s.heap us qs []
  | [], vs, us, qs, e, h, r => by
    cases e
    rw [show vs = [] from h] at r
    cases r; exact .nil
  | x :: xs, vs, us, qs, e, h, r => by
    obtain ⟨v, q, h1, h2, h3⟩ : ∃ v q, vs = v :: q ∧ Rp G S x v ∧ Rps G S xs q := h
    have e' : (match D.pf x, D.pfs xs with | some a, some q => some (a :: q) | _, _ => none) = some qs := e
    split at e'
    · rename_i a q' e1 e2
      cases e'
      rw [h1] at r
      cases r with
      | cons r1 r2 => exact ReadsAll.cons (as := []) (bs := []) (rp_reads I hK sub x v _ a e1 h2 r1) (rps_reads I hK sub xs q _ q' e2 h3 r2)
    · cases e'
end
theorem dic_reads (I : Inv X pins σ H s) (hK : X.K = G.K) (sub : Ext S H) : ∀ {kvs : List (D × D)} {l : List DE} {es : List DictEntry} {q : List (PyData × PyData)}, D.pfk kvs = some q → Rpk G S kvs l → Paired (EntIs X.w) l es →
    ReadsAll s.heap (es.map (·.key)) (q.map (·.1)) [] ∧ ReadsAll s.heap (es.map (·.val)) (q.map (·.2)) []
  | [], l, es, q, e, h, r => by
    cases e
    rw [show l = [] from h] at r
    cases r
    exact ⟨.nil, .nil⟩
  | (k, v) :: kvs, l, es, q, e, h, r => by
    obtain ⟨nk, kv, vv, l', rfl, h1, h2, h3, h4⟩ : ∃ k' kv vv l', l = (k', kv, vv) :: l' ∧ k.hk = some k' ∧ Rp G S k kv ∧ Rp G S v vv ∧ Rpk G S kvs l' := h
    have e' : (match k.pf, v.pf, D.pfk kvs with | some a, some b, some q => some ((a, b) :: q) | _, _, _ => none) = some q := e
    split at e'
    · rename_i a b q' e1 e2 e3
      cases e'
      cases r with
      | cons r1 r2 =>
        obtain ⟨i1, i2⟩ := dic_reads I hK sub e3 h4 r2
        exact ⟨ReadsAll.cons (as := []) (bs := []) (rp_reads I hK sub k kv _ a e1 h2 r1.2.1) i1, ReadsAll.cons (as := []) (bs := []) (rp_reads I hK sub v vv _ b e2 h3 r1.2.2) i2⟩
    · cases e'
def rRepr (X : Cx) (G : Gx) : List V → Hp → VK → Prop := fun xs H Q => ∃ (S : Hp) (a : Addr) (l : List DE) (kvs : List (D × D)) (t : Str), Ext S H ∧ xs = [.ref a] ∧ Rd H a (dicO X.w a l) ∧ Rpk G S kvs l ∧ reprD kvs = some t ∧ Q (.str t) H
theorem cr_repr {k : Nat} (hr : Room k X.A) (hK : X.K = G.K) : CallR X (.builtin "repr") (rRepr X G) := by
  intro pins s σ H xs us Q I r h
  obtain ⟨S, a, l, kvs, t, sub, rfl, rd, rk, e, q⟩ := h
  obtain ⟨u, rfl, ru⟩ := vals1 r
  obtain rfl : u = Value.ref a := ru
  unfold reprD at e
  split at e
  · rename_i qs e1
    split at e
    · rename_i c
      cases e
      simp only [Bool.and_eq_true, decide_eq_true_eq] at c
      obtain ⟨c1, c2, c3⟩ := c
      obtain ⟨p1, p2, es, ep, ⟨o, ho, hx, hd⟩, pr⟩ := dic_rd I rd
      obtain ⟨g1, g2⟩ := dic_reads I hK sub e1 rk pr
      have rr : Reads s.heap (.ref a) (.dict qs) (a :: [] ++ []) := .dict ho hx.1 hd g1 g2
      have un := hr.un
      refine repr_of_reads' rr (by simpa [PyData.showable] using c1) (fun _ z => ?_) hr.gd ?_ (fun _ _ z => z) (fun h' u tk hk => ?_) c2
      · have z' : sysModules = a := by simpa using z
        rw [← z'] at p1
        simp at p1
      · simp only [PyData.depth]; omega
      · exact ⟨.str _, H, I.kept (t' := tk) hk, ⟨u, rfl⟩, q⟩
    · cases e
  · cases e
end
end Pe
set_option maxHeartbeats 4000000
namespace Pe
open PySem PySem.Spec PyProof.Rows L2
/-! ### dict(pairs), dict(d) -/
open PySem.W (EachIs)
abbrev PK := NestedKey × V × V
def lputAll (acc : List DE) (ps : List PK) : List DE := ps.foldl (fun acc p => lput acc p.1 p.2.1 p.2.2) acc
theorem lputAll_len : ∀ (ps : List PK) (acc : List DE), (lputAll acc ps).length ≤ acc.length + ps.length
  | [], acc => Nat.le_refl _
  | p :: ps, acc => by
    have h1 := lputAll_len ps (lput acc p.1 p.2.1 p.2.2)
    have h2 := lput_len acc p.1 p.2.1 p.2.2
    rw [List.length_cons]
    show (lputAll (lput acc p.1 p.2.1 p.2.2) ps).length ≤ _
    omega
theorem lputAll_snoc (acc : List DE) (ps : List PK) (p : PK) : lputAll acc (ps ++ [p]) = lput (lputAll acc ps) p.1 p.2.1 p.2.2 := by
  unfold lputAll
  rw [List.foldl_append]; rfl
theorem lputAll_wf {K : PySem.W.Frag} {H : Hp} : ∀ {ps : List PK} {acc : List DE}, DicW K H acc → (∀ p ∈ ps, KIs K H p.1 p.2.1 ∧ p.1.depth ≤ 8) → DicW K H (lputAll acc ps)
  | [], acc, d, _ => d
  | p :: ps, acc, d, hp => lputAll_wf (ps := ps) (d.put (hp p List.mem_cons_self).1 (hp p List.mem_cons_self).2) fun q hq => hp q (List.mem_cons_of_mem _ hq)
theorem eachD_len {α β : Type} {R : α → β → Prop} {as : List α} {bs : List β} (h : EachIs R as bs) : as.length = bs.length := by
  induction h with
  | nil => rfl
  | cons _ _ ih => simp [ih]
theorem eachD_at {α β : Type} {R : α → β → Prop} {as : List α} {bs : List β} (h : EachIs R as bs) : ∀ {j : Nat} {a : α} {b : β}, as[j]? = some a → bs[j]? = some b → R a b := by
  induction h with
  | nil => intro j a b h1 _; simp at h1
  | cons q _ ih =>
    intro j a b h1 h2
    cases j with
    | zero => simp at h1 h2; subst h1 h2; exact q
    | succ j => exact ih (by simpa using h1) (by simpa using h2)
theorem pair_hash {w : World} : ∀ {l : List DE} {el : List DictEntry}, Paired (EntIs w) l el → el.map (·.hash) = l.map fun p => p.1.hash w
  | _, _, .nil => rfl
  | _, _, .cons r t => by rw [List.map_cons, List.map_cons, pair_hash t, r.1]
/-- v is the tuple of a key and a value -/
def PairK (K : PySem.W.Frag) (H : Hp) (v : V) (p : PK) : Prop := ∃ t, v = .ref t ∧ TupA K H t [p.2.1, p.2.2] ∧ KIs K H p.1 p.2.1 ∧ p.1.depth ≤ 8
section
variable {X : Cx} {pins : List (Addr × Obj)} {σ : L2.St} {H : Hp} {s : Shared}
theorem pairs_raw (I : Inv X pins σ H s) : ∀ {ys : List V} {ps : List PK} {its : List Value}, EachIs (PairK X.K H) ys ps → Vals ys its → ∃ (Ts : List Addr) (raw : List (Value × Value)), its = Ts.map Value.ref ∧ Ts.length = raw.length ∧ raw.length = ps.length ∧
    ∀ (j : Nat) k v, raw[j]? = some (k, v) → ∃ p t, ps[j]? = some p ∧ Ts[j]? = some t ∧ PairAt s.heap t k v ∧ L2.RelV p.2.1 k ∧ L2.RelV p.2.2 v := by
  intro ys ps its e
  induction e generalizing its with
  | nil => intro r; cases r; exact ⟨[], [], rfl, rfl, rfl, fun j k v e => by simp at e⟩
  | cons q _ ih =>
    intro r
    rename_i y p ys ps _
    cases r with
    | cons r1 r2 =>
      rename_i u its
      obtain ⟨Ts, raw, e1, e2, e3, e4⟩ := ih r2
      obtain ⟨t, rfl, ht, _, _⟩ := q
      obtain rfl : u = Value.ref t := r1
      obtain ⟨kv, rk, ⟨ob, g1, g2, n, g3⟩, _⟩ := I.tuple ht.sq
      cases rk with
      | @cons _ u1 _ _ s1 rk =>
        cases rk with
        | @cons _ u2 _ _ s2 rk =>
          cases rk
          refine ⟨t :: Ts, (u1, u2) :: raw, by rw [e1]; rfl, by rw [List.length_cons, List.length_cons, e2], by rw [List.length_cons, List.length_cons, e3], fun j k v e => ?_⟩
          cases j with
          | zero =>
            simp at e
            obtain ⟨rfl, rfl⟩ := e
            exact ⟨p, t, rfl, rfl, .inl ⟨ob, g1, g2, n, g3⟩, s1, s2⟩
          | succ j =>
            obtain ⟨p', t', a, b, c, d1, d2⟩ := e4 j k v (by simpa using e)
            exact ⟨p', t', by simpa using a, by simpa using b, c, d1, d2⟩
def rDictP (X : Cx) : List V → Hp → VK → Prop := fun xs H Q => ∃ (a : Addr) (ys : List V) (ps : List PK), xs = [.ref a] ∧ SqL X.K H a ys ∧ EachIs (PairK X.K H) ys ps ∧ ∀ p, H p = none → Q (.ref p) (upd H p (dicO X.w p (lputAll [] ps)))
theorem cr_dictP (hu : X.A.units + 64 < cLine) (hcalm : X.calm = true) : CallR X (.type "dict") (rDictP X) := by
  intro pins s σ H xs us Q I r h
  obtain ⟨a, ys, ps, rfl, sq, ep0, q⟩ := h
  obtain ⟨u, rfl, ru⟩ := vals1 r
  obtain rfl : u = Value.ref a := ru
  obtain ⟨its, rv, pl, hz⟩ := I.list sq
  obtain ⟨Ts, raw, e1, e2, e3, e4⟩ := pairs_raw I ep0 rv
  have lits : its.length = raw.length := by rw [e1, List.length_map, e2]
  have lraw : raw.length ≤ sizeLine := by rw [← lits, ← rv.length]; exact hz
  have wfp : ∀ p ∈ ps, KIs X.K H p.1 p.2.1 ∧ p.1.depth ≤ 8 := fun p hp => by
    obtain ⟨j, hj⟩ := List.mem_iff_getElem?.mp hp
    have hl : j < ys.length := by rw [eachD_len ep0]; exact (List.getElem?_eq_some_iff.mp hj).1
    obtain ⟨t, _, _, b, c⟩ := eachD_at ep0 (List.getElem?_eq_getElem hl) hj
    exact ⟨b, c⟩
  have pit : PairItems s.heap its.toArray (fun j => Ts.getD j 0) raw := by
    refine ⟨by rw [List.size_toArray]; exact lits, fun j k v e => ?_⟩
    obtain ⟨p, t, _, b, c, _⟩ := e4 j k v e
    have e5 : Ts.getD j 0 = t := by rw [List.getD_eq_getElem?_getD, b]; rfl
    show its.toArray[j]? = some (Value.ref (Ts.getD j 0)) ∧ PairAt s.heap (Ts.getD j 0) k v
    rw [e5]
    refine ⟨?_, c⟩
    rw [List.getElem?_toArray, e1, List.getElem?_map, b]; rfl
  obtain ⟨d, hd⟩ : ∃ d, s.heap.objs.size = d := ⟨_, rfl⟩
  have dn : ∀ b o, s.heap.get? b = some o → b ≠ d := fun b o e => by rw [← hd]; exact Nat.ne_of_lt (Heap.lt_size e)
  obtain ⟨lo, _, es0, ep1, raw0, rel0⟩ := dic_new (w := X.w) s.heap I.big
  rw [hd] at lo raw0
  refine call_dict_arg (PairArg.list a its.toArray (fun j => Ts.getD j 0) raw) ⟨pl, pit⟩ fun s1 hs1 hdf ok1 => ?_
  rw [hd] at hdf ⊢
  have h1 : s1.heap = s.heap.push { cls := .type "dict", data := .dict #[] } := by rw [hs1]
  have old1 : ∀ b o, s.heap.get? b = some o → s1.heap.get? b = some o := fun b o e => by rw [h1]; exact Heap.get?_push_of_some _ e
  refine updateFrom_arg (Tab := fun i h => (∃ es ep, h.DictRaw d es ep ∧ Paired (EntIs X.w) (lputAll [] (ps.take i)) es.toList) ∧ ∀ b o, s.heap.get? b = some o → h.get? b = some o) (PairArg.list a its.toArray (fun j => Ts.getD j 0) raw) .none (I.ok.hd hcalm) ok1 hdf ⟨⟨es0, ep1, by rw [h1]; exact raw0, rel0⟩, old1⟩ (fun i h tb => let ⟨⟨_, _, m, _⟩, _⟩ := tb; m.lt_size) (fun i h h' wr hdw hw tb hk => ?_) (fun i k v s' Q' E' hi hr tb _ hQ => ?_) fun h' tk tb _ => ?_
  · obtain ⟨⟨es, ep, m, rl⟩, old⟩ := tb
    refine ⟨⟨es, ep, m.at fun o e => hk d o hdw e, rl⟩, fun b o e => hk b o (fun z => ?_) (old b o e)⟩
    rcases hw b z with y | y
    · cases y
    · rw [old1 b o e] at y; cases y
  · obtain ⟨⟨es, ep, m, rl⟩, old⟩ := tb
    obtain ⟨p, t, hp, _, _, rk, rvv⟩ := e4 i k v hr
    have I' : Inv X pins σ H { s with heap := s'.heap } := I.kept (t' := s.toks) old
    have dw : DicW X.K H (lputAll [] (ps.take i)) := lputAll_wf ⟨List.nodup_nil, fun p hp => by cases hp⟩ fun p hp => wfp p (List.mem_of_mem_take hp)
    have en := dic_ents I' dw rl
    obtain ⟨wk, w8⟩ := wfp p (List.mem_of_getElem? hp)
    have tks : lputAll [] (ps.take (i + 1)) = lput (lputAll [] (ps.take i)) p.1 p.2.1 p.2.2 := by rw [List.take_add_one, hp]; exact lputAll_snoc _ _ _
    have hz' : es.size ≤ sizeLine := by
      rw [en.len, List.length_map]
      have := lputAll_len (ps.take i) []
      rw [List.length_take] at this
      simp only [List.length_nil] at this
      omega
    have stay : ∀ {h' : Heap}, Heap.SameBut d s'.heap h' → ∀ b o, s.heap.get? b = some o → h'.get? b = some o := fun {h'} sb b o e => (sb.2 b (dn b o e)).trans (old b o e)
    refine dictSet_key (s := s') (by show X.A.units + 1 + 1 + 8 < cLine; omega) (KIs.ok I' _ _ _ wk rk) w8 m en hz' (fun no h' ep' m' sb => hQ h' _ ⟨⟨_, ep', m', ?_⟩, stay sb⟩ sb) fun j hj h' ep' m' sb => hQ h' _ ⟨⟨_, ep', m', ?_⟩, stay sb⟩ sb
    · rw [tks]
      have n : p.1 ∉ (lputAll [] (ps.take i)).map (·.1) := fun z => by
        obtain ⟨j, hj⟩ := List.mem_iff_getElem?.mp z
        exact no j hj
      unfold lput
      rw [if_neg n, Array.toList_push]
      exact pair_app rl (.cons ⟨rfl, rk, rvv⟩ .nil)
    · rw [tks]
      exact pair_put (key := k) dw.nd rl hj rvv
  · obtain ⟨⟨es, ep, m, rl⟩, old⟩ := tb
    have tk0 : ps.take raw.length = ps := List.take_of_length_le (by omega)
    rw [tk0] at rl
    have hl : (lputAll [] ps).length ≤ sizeLine := by
      have := lputAll_len ps []
      simp only [List.length_nil] at this
      omega
    subst hs1
    exact ⟨rfl, .ref d, upd H d (dicO X.w d (lputAll [] ps)), I.laid (t' := tk) old (Nat.le_of_eq hd) (dicO_ok ⟨lo, hl, es, ep, m, rl⟩), rfl, q d (I.hok.fresh (Nat.le_of_eq hd))⟩
/-! ### a dict's copy -/
def rDictC (X : Cx) : List V → Hp → VK → Prop := fun xs H Q => ∃ (a : Addr) (l : List DE), xs = [.ref a] ∧ Rd H a (dicO X.w a l) ∧ DicW X.K H l ∧ (∀ p ∈ l, isTupK p.1 = true) ∧ (l.map fun p => p.1.hash X.w).Nodup ∧ ∀ p, H p = none → Q (.ref p) (upd H p (dicO X.w p l))
theorem mergeC {A : Around} {E : Value → Shared → Prop} {nm : String} {d o : Addr} {es : Array DictEntry} {ep e0 : Nat} {s : Shared} {w : World} {prog : Program} {Q : Unit → Shared → Prop} (hdo : d ≠ o) (ho : (o == sysModules) = false) (md : s.heap.DictRaw d #[] e0) (mo : s.heap.DictRaw o es ep) (hz : es.size ≤ sizeLine)
    (ap : ∀ e ∈ es.toList, ∃ a, e.key = .ref a ∧ s.TypeIs (.ref a) "tuple" ∧ (es.filter (·.hash == e.hash)).size ≤ 1) (h : ∀ h' ep', h'.DictRaw d es ep' → Heap.SameBut d s.heap h' → Q () { s with heap := h' }) : wpAny (model prog w) A (Builtin.Dict.mergeDict nm d o) Q E s := by
  obtain ⟨od, hod, hcd, hdd⟩ := md
  obtain ⟨oo, hoo, hco, hdo'⟩ := id mo
  unfold Builtin.Dict.mergeDict Builtin.Dict.showsAll
  rw [if_neg (by simpa using hdo), if_neg (by rw [ho]; decide)]
  refine wpAny_bind (wpAny_pure (wpAny_bind (wpAny_dictEntries hoo hdo' ?_)))
  dsimp only
  by_cases em : es = #[]
  · subst em
    rw [if_neg (by simp)]
    refine wpAny_bind (wpAny_dictEpoch hoo hdo' (wpAny_bind (wpAny_dictEntries hoo hdo' (wpAny_bind ?_))))
    rw [Std.Legacy.Range.forIn_eq_forIn_range']
    simp only [Std.Legacy.Range.size, List.size_toArray, List.length_nil]
    exact wpAny_pure (wpAny_pure (h s.heap e0 ⟨od, hod, hcd, hdd⟩ (Heap.SameBut.refl _ _)))
  · have pos : 0 < es.size := by
      rcases Nat.eq_zero_or_pos es.size with z | z
      · exact absurd (Array.eq_empty_of_size_eq_zero z) em
      · exact z
    have key0 : (es.all fun e => (keyPart e.key).isSome) = false := by
      rw [Bool.eq_false_iff]
      intro z
      have := Array.all_eq_true.mp z 0 pos
      obtain ⟨a, e1, _⟩ := ap es[0] (by simp)
      rw [e1] at this
      cases this
    rw [key0, if_pos (by simp)]
    refine wpAny_bind (wpAny_dictEntries hod hdd ?_)
    rw [if_pos (by simp)]
    refine wpAny_bind (wpAny_entriesForEmpty_raw hoo hdo' (fun e he => .inr (ap e he)) ?_)
    rw [if_pos (by simpa using em)]
    exact wpAny_bind (wpAny_updateDictKeysTo hod hdd (wpAny_pure (h _ (e0 + 1) ⟨_, Heap.get?_update_self _ hod (Obj.isFreed_of_dict (Obj.data_mapDictKeys hdd _)), hcd.mapDictKeys _, Obj.data_mapDictKeys hdd _⟩ (Heap.SameBut.update ..))) (Nat.le_succ_of_le hz))
theorem cr_dictC : CallR X (.type "dict") (rDictC X) := by
  intro pins s σ H xs us Q I r h
  obtain ⟨a, l, rfl, rd, dw, tp, hn, q⟩ := h
  obtain ⟨u, rfl, ru⟩ := vals1 r
  obtain rfl : u = Value.ref a := ru
  obtain ⟨p1, p2, es, ep, raw, rel⟩ := dic_rd I rd
  have hsz : es.size ≤ sizeLine := by
    rw [← Array.length_toList, ← pair_len rel]
    exact p2
  obtain ⟨d, hd⟩ : ∃ d, s.heap.objs.size = d := ⟨_, rfl⟩
  have hda : d ≠ a := by rw [← hd]; exact Nat.ne_of_gt raw.lt_size
  obtain ⟨lo, _, es0, ep1, raw0, rel0⟩ := dic_new (w := X.w) s.heap I.big
  have hs0 : es0 = #[] := by cases es0 with | mk l0 => cases rel0; rfl
  subst hs0
  have ra1 : (s.heap.push { cls := .type "dict", data := .dict #[] }).DictRaw a es ep := raw.push _
  have I1 : Inv X pins σ H { s with heap := s.heap.push { cls := .type "dict", data := .dict #[] } } := I.kept (t' := s.toks) fun b u e => Heap.get?_push_of_some _ e
  have ap : ∀ e ∈ es.toList, ∃ t, e.key = .ref t ∧ Shared.TypeIs { s with heap := s.heap.push { cls := .type "dict", data := .dict #[] } } (.ref t) "tuple" ∧ (es.filter (·.hash == e.hash)).size ≤ 1 := fun e he => by
    obtain ⟨j, hj⟩ := List.mem_iff_getElem?.mp he
    obtain ⟨p, hp, e1, e2, e3⟩ := pair_get rel hj
    have hpl := List.mem_of_getElem? hp
    have kis := KIs.ok I1 _ _ _ (dw.ks p hpl).1 e2
    have tk := tp p hpl
    have hnd : (es.toList.map (·.hash)).Nodup := by
      rw [pair_hash rel]; exact hn
    obtain ⟨kk, kv, vv⟩ := p
    cases kk <;> first | (cases tk; done) | skip
    obtain ⟨eh, ek, ev⟩ := e
    cases kis with
    | tup g1 g2 g3 _ => exact ⟨_, rfl, ⟨_, g1, g2⟩, by rw [← Array.length_toList, Array.toList_filter]; exact filter_le_one (·.hash) _ es.toList hnd⟩
  refine callType_codes (Q₁ := fun ob t => ob = .ref s.heap.objs.size ∧ t = { s with heap := s.heap.push { cls := .type "dict", data := .dict #[] } }) F.kt_called_dict (F.kt_typeCall_dict_1 _) F.entry_dict_init (kt_code_dict_new _ ⟨rfl, rfl⟩) ?_
  rintro ob t ⟨rfl, rfl⟩
  have tyd : Shared.TypeIs { s with heap := s.heap.push { cls := .type "dict", data := .dict #[] } } (.ref s.heap.objs.size) "dict" := ⟨_, Heap.get?_push_size _ rfl, rfl⟩
  refine ⟨tyd, F.args_dict_init_2 _ _, ?_⟩
  unfold Builtin.«dict.__init__» Builtin.Dict.selfAndRest
  refine wpAny_bind (wpAny_bind (wpAny_notOrdered_dict tyd (wpAny_pure ?_)))
  show wpAny _ _ (Builtin.Dict.updateFrom "dict.__init__" s.heap.objs.size (.ref a) [] .none) _ _ _
  unfold Builtin.Dict.updateFrom
  refine wpAny_bind (wpAny_typeOf ra1.typeIs ?_)
  rw [if_neg (by decide)]
  refine wpAny_bind ?_
  unfold Builtin.Dict.merge
  refine wpAny_bind ?_
  unfold Builtin.Dict.readDirectly
  refine wpAny_bind (wpAny_isInstance ra1.typeIs isSubtype_dict_dict ?_)
  simp only [Bool.not_true, Bool.false_eq_true, if_false]
  refine wpAny_bind (wpAny_specialOf ra1.typeIs F.slot_dict_iter.lookup (wpAny_pure ?_))
  simp only [beq_self_eq_true, if_true]
  refine wpAny_bind (wpAny_pure (mergeC (by rw [hd]; exact hda) p1 raw0 ra1 hsz ap fun h' ep' m' sb => ?_))
  show wpAny _ _ (Builtin.Dict.addKeywords _ [] >>= _) _ _ _
  refine wpAny_bind (wpAny_pure (wpAny_pure ?_))
  have old : ∀ b o, s.heap.get? b = some o → h'.get? b = some o := fun b o e => (sb.2 b (Nat.ne_of_lt (Heap.lt_size e))).trans (Heap.get?_push_of_some _ e)
  exact ⟨rfl, .ref s.heap.objs.size, upd H _ (dicO X.w _ l), I.laid (t' := s.toks) old (Nat.le_refl _) (dicO_ok ⟨lo, p2, es, ep', m', rel⟩), rfl, q _ (I.hok.fresh (Nat.le_refl _))⟩
end
/-! ### from plain values -/
mutual
theorem khash_ok {w : World} : ∀ {k : NestedKey} {i : Int}, khash k = some i → k.hash w = i
  | .none, i, e => by cases e
  | .num j, i, e => by cases e; rfl
  | .text _, i, e => by cases e
  | .tup ks, i, e => by
    unfold khash at e
    obtain ⟨l, e1, rfl⟩ := Option.map_eq_some_iff.mp e
    unfold NestedKey.hash
    rw [khashes_ok e1]
theorem khashes_ok {w : World} : ∀ {ks : List NestedKey} {l : List Int}, khashes ks = some l → NestedKey.hashes w ks = l
  | [], l, e => by cases e; rfl
  | k :: ks, l, e => by
    unfold khashes at e
    split at e
    · rename_i a q e1 e2
      cases e
      unfold NestedKey.hashes
      rw [khash_ok e1, khashes_ok e2]
    · cases e
end
section
variable {G : Gx} {S H : Hp}
theorem rpk_nd0 {l : List DE} {kv vv : V} {kk : NestedKey} (nd : (l.map fun p : DE => p.1).Nodup) : ((lput l kk kv vv).map fun p : DE => p.1).Nodup := by
  have e : ((lput l kk kv vv).map fun p : DE => p.1) = if kk ∈ l.map (·.1) then l.map (·.1) else l.map (·.1) ++ [kk] := lput_keys l kk kv vv
  rw [e]
  split
  · exact nd
  · rename_i h
    rw [List.nodup_append]
    exact ⟨nd, by simp, fun x hx y hy z => h (by rw [List.mem_singleton.mp hy] at z; rw [← z]; exact hx)⟩
theorem hashes_map {w : World} : ∀ ks : List NestedKey, NestedKey.hashes w ks = ks.map (·.hash w)
  | [] => rfl
  | k :: r => by rw [NestedKey.hashes, hashes_map r]; rfl
theorem rpk_hks : ∀ {kvs : List (D × D)} {l : List DE} {ks : List NestedKey}, Rpk G S kvs l → hks (kvs.map (·.1)) = some ks → l.map (·.1) = ks
  | [], l, ks, r, e => by rw [show l = [] from r]; cases e; rfl
  | (kd, vd) :: kvs, l, ks, r, e => by
    obtain ⟨k, kv, vv, l', rfl, h2, h3, h4, h5⟩ := r
    have e' : (match kd.hk, hks (kvs.map (·.1)) with | some k, some q => some (k :: q) | _, _ => none) = some ks := e
    rw [h2] at e'
    cases q : hks (kvs.map (·.1)) with
    | none => rw [q] at e'; cases e'
    | some q' =>
      rw [q] at e'
      cases e'
      rw [List.map_cons, rpk_hks h5 q]
theorem apart_ok {w : World} {l : List DE} (h : apartK (l.map (·.1)) = true) : (∀ p ∈ l, isTupK p.1 = true) ∧ (l.map fun p => p.1.hash w).Nodup := by
  unfold apartK at h
  rw [Bool.and_eq_true] at h
  obtain ⟨h1, h2⟩ := h
  refine ⟨fun p hp => List.all_eq_true.mp h1 p.1 (List.mem_map.mpr ⟨p, hp, rfl⟩), ?_⟩
  split at h2
  · rename_i hs e
    have := of_decide_eq_true h2
    rw [← khashes_ok (w := w) e, hashes_map, List.map_map] at this
    exact this
  · cases h2
/-- the pairs of a list as keys and values -/
theorem dictP_ok (sub : Ext S H) : ∀ {xs : List D} {ys : List V} {acc kvs : List (D × D)} {l : List DE}, Rps G S xs ys → Rpk G S acc l → (l.map fun p : DE => p.1).Nodup → dictP acc xs = some kvs → ∃ ps : List PK, EachIs (PairK G.K H) ys ps ∧ Rpk G S kvs (lputAll l ps) ∧ ((lputAll l ps).map fun p : DE => p.1).Nodup
  | [], ys, acc, kvs, l, r, ra, nd, e => by
    rw [show ys = [] from r]; cases e
    exact ⟨[], .nil, ra, nd⟩
  | x :: xs, ys, acc, kvs, l, r, ra, nd, e => by
    obtain ⟨v, q, rfl, r1, r2⟩ := r
    unfold dictP at e
    split at e
    · rename_i k y
      split at e
      · rename_i kk hk
        split at e
        · obtain ⟨t, zs, rfl, ht, kv, q1, rfl, rk, vv, q2, rfl, rv, rn⟩ := r1
          have rn : q2 = [] := rn
          subst rn
          obtain ⟨ps, e1, e2, e3⟩ := dictP_ok sub r2 (Rpk.put hk rk rv ra nd) (rpk_nd0 nd) e
          exact ⟨(kk, kv, vv) :: ps, .cons ⟨t, rfl, ht.imp (sub _ _) fun z => z, KIs.ext (fun b xs e => sub _ _ e) _ _ (Rp.key _ _ _ rk (hk_key hk).1), (hk_key hk).2⟩ e1, e2, e3⟩
        · cases e
      · cases e
    · cases e
end
end Pe
set_option maxHeartbeats 4000000
namespace Pe
open PySem PySem.Spec PyProof.Rows L2
section
variable {G : Gx} {P : Prog} {cl : Cl} {X : Cx} {E : XK} {σ : L2.St} {a b c e o : Expr} {pos apos p p2 : Pos} {N : List Str} {sc : Scope} {k : Nat}
/-! ### built-in functions -/
theorem callr_ex {f : Value} {ι : Type} {r : ι → List V → Hp → VK → Prop} (h : ∀ i, CallRs X σ f (r i)) : CallRs X σ f (fun xs H Q => ∃ i, r i xs H Q) := by
  intro pins s H xs us Q I rx ⟨i, q⟩
  exact h i pins s H xs us Q I rx q
theorem callr_if {f : Value} {p : Prop} {r : List V → Hp → VK → Prop} (h : p → CallRs X σ f r) : CallRs X σ f (fun xs H Q => p ∧ r xs H Q) := by
  intro pins s H xs us Q I rx ⟨hp, q⟩
  exact h hp pins s H xs us Q I rx q
theorem CallRs.or {f : Value} {r r' : List V → Hp → VK → Prop} (h : CallRs X σ f r) (h' : CallRs X σ f r') : CallRs X σ f (fun xs H Q => r xs H Q ∨ r' xs H Q) := by
  intro pins s H xs us Q I rx q
  rcases q with q | q
  · exact h pins s H xs us Q I rx q
  · exact h' pins s H xs us Q I rx q
theorem we_callB {id : String} {r : List V → Hp → VK → Prop} {x : Str} {es : List Expr} {H : Hp} {Q : VK} (hc : CallRs X σ (.builtin id) r) (hg : Gl X x) (hm : X.mg x = none) (hv : bootBuiltins x = some (.builtin id)) (hn : x ≠ "__name__") (hdb : (x == ("__debug__" : Str)) = false)
    (he : starEach (e :: es) X.env = (false, eval e X.env) :: starEach es X.env) (hpl : (backTo pos (starEach es X.env)).any (·.1) = false) (h : WA X (e :: es) σ H fun vs H1 => r vs H1 Q) : WE X (.Call (.Name x p) (e :: es) [] pos) σ H Q := fun pins s I => by
  refine wpAny_Call_Name_kw (ld_blt I hg hm hv ?_ hn hdb)
  exact PyProof.Rows.callWith_builtin1 (thn (h pos pins s I) fun us s1 ⟨vs, H1, I1, r1, q1⟩ => hc pins s1 H1 vs us Q I1 r1 q1) he hpl
theorem we_callTy {T : String} {r : List V → Hp → VK → Prop} {x : Str} {es : List Expr} {H : Hp} {Q : VK} (hc : CallRs X σ (.type T) r) (hg : Gl X x) (hm : X.mg x = none) (hv : bootBuiltins x = some (.type T)) (hn : x ≠ "__name__") (hdb : (x == ("__debug__" : Str)) = false)
    (he : starEach (e :: es) X.env = (false, eval e X.env) :: starEach es X.env) (hpl : (backTo pos (starEach es X.env)).any (·.1) = false) (h : WA X (e :: es) σ H fun vs H1 => r vs H1 Q) : WE X (.Call (.Name x p) (e :: es) [] pos) σ H Q := fun pins s I => by
  refine wpAny_Call_Name_kw (ld_blt I hg hm hv ?_ hn hdb)
  exact PyProof.Rows.callWith_type1 (thn (h pos pins s I) fun us s1 ⟨vs, H1, I1, r1, q1⟩ => hc pins s1 H1 vs us Q I1 r1 q1) he hpl
def VwL (G : Gx) (S H : Hp) : List D → List V → Prop
  | [], vs => vs = []
  | d :: r, vs => ∃ v q, vs = v :: q ∧ Vw G S H d v ∧ VwL G S H r q
theorem rdAll_ok {S H : Hp} {L : List Addr} {h : Cells} (ok : Ok G S L h H) : ∀ {ws : List Pe.W} {vs : List V} {ds : List D}, WIss G S L ws vs → rdAll h ws = some ds → VwL G S H ds vs
  | [], vs, ds, r, e => by cases e; exact r
  | w :: ws, vs, ds, r, e => by
    obtain ⟨v, q, rfl, r1, r2⟩ := r
    unfold rdAll at e
    split at e
    · rename_i d dd e1 e2
      cases e
      exact ⟨v, q, rfl, rd_vw ok r1 e1, rdAll_ok ok r2 e2⟩
    · cases e
/-! ### sorted(d), d's keys pairs of ints -/
open PySem.W (EachIs)
def enc2 (k : Int × Int) : PyData := .tuple [.int k.1, .int k.2]
theorem leP_data : PySem.W.dataLe false enc2 = leP := PySem.W.dataLe_ii (β := Int × Int) Prod.fst Prod.snd
def PairV (K : PySem.W.Frag) (H : Hp) (v : V) (k : Int × Int) : Prop := ∃ t, v = .ref t ∧ TupA K H t [.int k.1, .int k.2]
def PairU (K : PySem.W.Frag) (H : Hp) (u : Value) (k : Int × Int) : Prop := ∃ t, u = .ref t ∧ TupA K H t [.int k.1, .int k.2]
theorem pairs_vals {K : PySem.W.Frag} {H : Hp} {us : List Value} {ks : List (Int × Int)} (h : EachIs (PairU K H) us ks) : ∃ ys, Vals ys us ∧ EachIs (PairV K H) ys ks := by
  induction h with
  | nil => exact ⟨[], .nil, .nil⟩
  | cons h _ ih =>
    obtain ⟨t, rfl, ht⟩ := h
    obtain ⟨ys, h1, h2⟩ := ih
    exact ⟨.ref t :: ys, .cons rfl h1, .cons ⟨t, rfl, ht⟩ h2⟩
theorem pair_reads {pins : List (Addr × Obj)} {σ : L2.St} {H : Hp} {s : Shared} (I : Inv X pins σ H s) {us : List Value} {ks : List (Int × Int)} (e : EachIs (PairU X.K H) us ks) : EachIs (fun v b => ∃ as, Reads s.heap v (enc2 b) as ∧ as = []) us ks := by
  induction e with
  | nil => exact .nil
  | cons q _ ih =>
    refine .cons ?_ ih
    obtain ⟨t, rfl, ht⟩ := q
    have fin : ∀ {its : List Value} {i j : Int} {o : Obj} {n : Nat}, Vals [.int i, .int j] its → s.heap.get? t = some o → o.cls = .type "tuple" → o.data = .seq its.toArray n → ∃ as, Reads s.heap (.ref t) (enc2 (i, j)) as ∧ as = [] := fun {its i j o n} rv g1 g2 g3 => by
      refine ⟨[], ?_, rfl⟩
      cases rv with
      | cons r1 rr =>
        cases rr with
        | cons r2 rr =>
          cases rr
          obtain ⟨t1, rfl⟩ := r1
          obtain ⟨t2, rfl⟩ := r2
          exact Reads.tuple (as := []) g1 g2 g3 (by rw [show (#[Value.int _ t1, Value.int _ t2] : Array Value) = _ from rfl]; exact .cons (as := []) (bs := []) (.int _ _) (.cons (as := []) (bs := []) (.int _ _) .nil))
    rcases ht with ht | ⟨o, its, n, k1, k2, k3, _, k5⟩
    · obtain ⟨_, its, rv, o, g1, g2, n, g3⟩ := (show ObjOk X.prog X.w H s.heap t (.tup _) from I.hok t _ ht)
      exact fin rv g1 g2 g3
    · exact fin (its := its.toList) k5 (I.kIn t o k1) k2 (by rw [k3])
theorem each_get {α β : Type} {R : α → β → Prop} : ∀ {as : List α} {bs : List β}, as.length = bs.length → (∀ (j : Nat) a b, as[j]? = some a → bs[j]? = some b → R a b) → EachIs R as bs
  | [], [], _, _ => .nil
  | a :: as, b :: bs, h, k => .cons (k 0 a b rfl rfl) (each_get (by simpa using h) fun j x y h1 h2 => k (j + 1) x y (by simpa using h1) (by simpa using h2))
  | [], _ :: _, h, _ => by simp at h
  | _ :: _, [], h, _ => by simp at h
theorem each_len {α β : Type} {R : α → β → Prop} {as : List α} {bs : List β} (h : EachIs R as bs) : as.length = bs.length := by
  induction h with
  | nil => rfl
  | cons _ _ ih => simp [ih]
theorem each_at {α β : Type} {R : α → β → Prop} {as : List α} {bs : List β} (h : EachIs R as bs) : ∀ {j : Nat} {a : α} {b : β}, as[j]? = some a → bs[j]? = some b → R a b := by
  induction h with
  | nil => intro j a b h1 _; simp at h1
  | cons q _ ih =>
    intro j a b h1 h2
    cases j with
    | zero => simp at h1 h2; subst h1 h2; exact q
    | succ j => exact ih (by simpa using h1) (by simpa using h2)
theorem pairs_alike (ks : List (Int × Int)) : PySem.W.AllAlike (ks.map enc2) := by
  intro d hd d' hd'
  obtain ⟨a, _, rfl⟩ := List.mem_map.mp hd
  obtain ⟨b, _, rfl⟩ := List.mem_map.mp hd'
  rfl
theorem pairs_sortable (ks : List (Int × Int)) : PySem.W.Sortable (ks.map enc2) := .inl fun d hd => by
  obtain ⟨a, _, rfl⟩ := List.mem_map.mp hd
  exact ⟨_, _, rfl⟩
def rSortD (K : PySem.W.Frag) (w : World) : List V → Hp → VK → Prop := fun xs H Q => ∃ (a : Addr) (l : List DE) (ks : List (Int × Int)), xs = [.ref a] ∧ Rd H a (dicO w a l) ∧ EachIs (fun p k => PairV K H p.2.1 k) l ks ∧
  ∀ p ys, H p = none → EachIs (PairV K H) ys (ks.mergeSort leP) → Q (.ref p) (upd H p (.lst ys))
theorem cr_sorted_dic (hu : X.A.units + 64 < cLine) (hcalm : X.calm = true) : CallR X (.builtin "sorted") (rSortD X.K X.w) := by
  intro pins s σ H xs us Q I r q
  obtain ⟨a, l, ks, rfl, hd, hks, q⟩ := q
  obtain ⟨u, rfl, rx⟩ := Vals.one r
  cases (show u = Value.ref a from rx)
  obtain ⟨lo, z, es, ep, raw, rel⟩ := dic_rd I hd
  have hsz0 : l.length = es.size := by rw [pair_len rel, Array.length_toList]
  have hsz : es.size = ks.length := by rw [← hsz0, each_len hks]
  have h16 : es.size ≤ sizeLine := by rw [← hsz0]; exact z
  refine Calls.call_function_entry (b := Builtin.«sorted») PyProof.Rows.kind_sorted PyProof.Rows.plain_sorted PyProof.Rows.entry_sorted (PyProof.Rows.args_sorted1 _) (wpAny_bind (m := checkCount "sorted" 1 1 _) (wpAny_pure ?_))
  refine wpAny_bind (PySem.W.kdu_collect (A := X.A.in1) (PySem.KdlSrc.rawDict (es := es) (ep := ep) lo) (I.ok.hd hcalm) raw h16 fun h' tk acc hk hacc => ?_)
  have each : EachIs (PairU X.K H) acc.toList ks := by
    have hl : acc.toList.length = ks.length := by rw [Array.length_toList, hacc.1, hsz]
    refine each_get hl fun j v k ev ek => ?_
    obtain ⟨hj, ev2⟩ := hacc.2 j v (by rw [← Array.getElem?_toList]; exact ev)
    obtain ⟨p, hp, _, r2, _⟩ := pair_get rel (j := j) (e := es[j]) (by rw [Array.getElem?_toList, Array.getElem?_eq_getElem hj])
    obtain ⟨t, e1, e2⟩ := each_at hks hp ek
    rw [e1] at r2
    exact ⟨t, by rw [ev2]; exact r2, e2⟩
  have I1 : Inv X pins σ H { s with heap := h', toks := tk } := I.kept hk
  have hal : acc.toList.length = ks.length := by rw [Array.length_toList, hacc.1, hsz]
  refine wpAny_bind (wpAny_newList ?_ (by rw [hal, ← hsz]; exact h16))
  have hoL : (h'.push (seqObj "list" acc.toList.toArray 0)).get? h'.objs.size = some (seqObj "list" acc.toList.toArray 0) := Heap.get?_push_size _ rfl
  have I2 : Inv X pins σ H { s with heap := h'.push (seqObj "list" acc.toList.toArray 0), toks := tk } := I1.kept (t' := tk) fun b u e => Heap.get?_push_of_some _ e
  show wpAny _ _ _ _ _ { s with heap := h'.push (seqObj "list" acc.toList.toArray 0), toks := tk }
  have rd := (pair_reads I2 each).mono (R' := fun v b => ∃ as, Reads (h'.push (seqObj "list" acc.toList.toArray 0)) v (enc2 b) as ∧ h'.objs.size ∉ as) fun v b ⟨as, g, ea⟩ => ⟨as, g, by rw [ea]; simp⟩
  refine wpAny_bind (wpAny_holding (PySem.W.list_sort_data (s := { s with heap := h'.push (seqObj "list" acc.toList.toArray 0), toks := tk }) (R := PairU X.K H) (enc := enc2) hoL each rd (pairs_alike ks) (pairs_sortable ks) (by rw [← hsz]; exact h16)
    (fun b _ => by show X.A.units + 1 + 1 + _ < cLine; have e : (enc2 b).depth ≤ 2 := (by exact Nat.le_of_ble_eq_true rfl); omega) fun out ho eo => ?_))
  rw [leP_data] at eo
  obtain ⟨ys, rv, ey⟩ := pairs_vals eo
  obtain ⟨e', he'⟩ := PyProof.Rows.sortedHeap_at (vs := acc.toList) (out := out.toArray) hoL
  have hlen : ys.length ≤ sizeLine := by rw [rv.length, ho, ← hsz]; exact h16
  refine wpAny_pure ⟨_, rfl, .ref h'.objs.size, upd H h'.objs.size (.lst ys), I1.laid (t' := tk) (fun b u e => ?_) (Nat.le_refl _)
    (show ObjOk X.prog X.w _ _ _ (.lst ys) from ⟨hlen, out, e', rv, he'⟩), rfl, q _ ys (I1.hok.fresh (Nat.le_refl _)) ey⟩
  have hb : b < h'.objs.size := Heap.lt_size e
  rw [PyProof.Rows.sortedHeap_old (Nat.ne_of_lt hb) (by rw [size_push']; exact Nat.lt_succ_of_lt hb)]
  exact Heap.get?_push_of_some _ e
theorem pair_rp {S H : Hp} (sub : Ext S H) {d : D} {v : V} {k : Int × Int} (r : Rp G S d v) (e : pairI d = some k) : PairV G.K H v k := by
  unfold pairI at e
  split at e
  · rename_i i j
    cases e
    obtain ⟨t, ys, h1, h2, y1, q1, rfl, r1, y2, q2, rfl, r2, r3⟩ := r
    have r3 : q2 = [] := r3
    subst r3
    rw [show y1 = .int i from r1, show y2 = .int j from r2] at h2
    exact ⟨t, h1, h2.imp (sub _ _) fun z => z⟩
  · cases e
theorem pairs_keys {S H : Hp} (sub : Ext S H) : ∀ {kvs : List (D × D)} {l : List DE} {ps : List (Int × Int)}, Rpk G S kvs l → pairsI (kvs.map (·.1)) = some ps → EachIs (fun p k => PairV G.K H p.2.1 k) l ps
  | [], l, ps, r, e => by rw [show l = [] from r]; cases e; exact .nil
  | (kd, vd) :: kvs, l, ps, r, e => by
    obtain ⟨k, kv, vv, l', rfl, h2, h3, h4, h5⟩ := r
    have e' : (match pairI kd, pairsI (kvs.map (·.1)) with | some p, some q => some (p :: q) | _, _ => none) = some ps := e
    split at e'
    · rename_i p q e1 e2
      cases e'
      exact .cons (pair_rp sub h3 e1) (pairs_keys sub h5 e2)
    · cases e'
/-- tuples are stable -/
theorem pairs_back {S H : Hp} {L : List Addr} {h : Cells} (ok : Ok G S L h H) {L0 : List Addr} {S0 H0 : Hp} (st : Step L0 S0 H0 L S H) : ∀ {ks : List (Int × Int)} {ys : List V}, EachIs (PairV G.K H) ys ks → ∃ S2, Step L0 S0 H0 L S2 H ∧ Ok G S2 L h H ∧ Ext S S2 ∧ Rps G S2 (ks.map pD) ys := by
  intro ks ys e
  induction e with
  | nil => exact ⟨S, st, ok, Ext.refl S, rfl⟩
  | cons q _ ih =>
    rename_i v k vs ks' _
    obtain ⟨S2, s2, o2, e2, r2⟩ := ih
    obtain ⟨t, rfl, ht⟩ := q
    have mk : ∀ S3 : Hp, Ext S2 S3 → TupA G.K S3 t [.int k.1, .int k.2] → Rps G S3 ((k :: ks').map pD) (.ref t :: vs) := fun S3 e3 h3 => ⟨.ref t, vs, rfl, ⟨t, _, rfl, h3, .int k.1, [.int k.2], rfl, rfl, .int k.2, [], rfl, rfl, rfl⟩, Rps.ext e3 _ _ r2⟩
    rcases ht with ht | ht
    · cases q : S2 t with
      | some u =>
        have := o2.sub t u q
        rw [ht] at this; cases this
        exact ⟨S2, s2, o2, e2, mk S2 (Ext.refl _) (.inl q)⟩
      | none =>
        have hl : t ∉ L := fun z => by
          obtain ⟨n, c, _, _, ci⟩ := o2.mem z
          rcases ci with ⟨o, ob, w⟩ | ⟨x, _, _, o, w⟩
          · split at w
            · obtain ⟨ob', w⟩ := w; rw [ht] at w; cases w
            · rw [ht] at w; cases w; exact ob.kind.1 _ rfl
          · rw [q] at w; cases w
        refine ⟨upd S2 t (.tup [.int k.1, .int k.2]), ⟨s2.l, s2.s.trans (ext_new q), s2.k, fun x u h1 h2 => ?_, s2.z, s2.t⟩, o2.settle ht q hl, e2.trans (ext_new q), mk _ (ext_new q) (.inl upd_same)⟩
        by_cases z : x = t
        · subst z; rw [upd_same] at h2; cases h2; exact .inr (.inl ⟨_, rfl⟩)
        · rw [upd_ne z] at h2; exact s2.f x u h1 h2
    · exact ⟨S2, s2, o2, e2, mk S2 (Ext.refl _) (.inr ht)⟩
theorem sorted_rel (g : Good G N sc k X) {S H : Hp} {L : List Addr} {h : Cells} {kvs : List (D × D)} {v : V} {l : List D} {Q : VK} (ok : Ok G S L h H) (hv : Vw G S H (.dic kvs) v) (e : sortD (kvs.map (·.1)) = some l) (q : RV G L S H Q (.new (.lst l)) h) : rSortD X.K X.w [v] H Q := by
  obtain ⟨a, dl, rfl, rd, rk, nd⟩ := hv
  unfold sortD at e
  split at e
  · rename_i ps hps
    cases e
    refine ⟨a, dl, ps, rfl, by rw [g.w]; exact rd, by rw [g.K]; exact pairs_keys ok.sub rk hps, fun p ys hp ey => ?_⟩
    rw [g.K] at ey
    obtain ⟨S2, s2, o2, e2, r2⟩ := pairs_back ok Step.refl ey
    exact rv_lst o2 (RV.shift s2 q) r2 hp
  · cases e
def BlOk (G : Gx) (P : Prog) (cl : Cl) (X : Cx) (E : XK) (σ : L2.St) (b : Bf) (x : Str) : Prop := ∃ (f : Value) (r : List V → Hp → VK → Prop), bootBuiltins x = some f ∧ ((∃ id, f = .builtin id) ∨ ∃ T, f = .type T) ∧ x ≠ "__name__" ∧ CallRs X σ f r ∧
  ∀ {S H : Hp} {L : List Addr} {h : Cells} {ws : List Pe.W} {vs : List V} {Q : VK}, Ok G S L h H → WIss G S L ws vs → Post G E L S H (blM P cl b ws h) (RV G L S H Q) → r vs H Q
/-- by plain values alone -/
theorem bl_of {b : Bf} {x : Str} {f : Value} {r : List V → Hp → VK → Prop} (hb : b ≠ .len) (h1 : bootBuiltins x = some f) (h2 : (∃ id, f = .builtin id) ∨ ∃ T, f = .type T) (h3 : x ≠ "__name__") (h4 : CallR X f r)
    (h5 : ∀ {S H : Hp} {L : List Addr} {h : Cells} {ds : List D} {vs : List V} {v : Val} {Q : VK}, Ok G S L h H → VwL G S H ds vs → bltD b ds = some v → RV G L S H Q v h → r vs H Q) : BlOk G P cl X E σ b x := by
  refine ⟨f, r, h1, h2, h3, .of h4, fun {S H L h ws vs Q} ok rw hp => ?_⟩
  unfold blM at hp
  rw [if_neg hb] at hp
  split at hp
  · rename_i e; cases e
  · split at hp
    · rename_i ds e1
      split at hp
      · rename_i v e2
        exact h5 ok (rdAll_ok ok rw e1) e2 hp
      · exact hp.elim
    · exact hp.elim
theorem rps_ints {S : Hp} : ∀ {xs : List D} {ys : List V} {l : List Int}, Rps G S xs ys → asInts xs = some l → ys = l.map V.int
  | [], ys, l, r, e => by cases e; exact r
  | x :: xs, ys, l, r, e => by
    obtain ⟨v, q, rfl, r1, r2⟩ := r
    cases x <;> first | (cases e; done) | skip
    obtain ⟨l', e1, rfl⟩ := Option.map_eq_some_iff.mp e
    rw [show v = .int _ from r1, rps_ints r2 e1]; rfl
theorem rps_bools {S : Hp} : ∀ {xs : List D} {ys : List V} {l : List Bool}, Rps G S xs ys → asBools xs = some l → ys = l.map V.bl
  | [], ys, l, r, e => by cases e; exact r
  | x :: xs, ys, l, r, e => by
    obtain ⟨v, q, rfl, r1, r2⟩ := r
    cases x <;> first | (cases e; done) | skip
    obtain ⟨l', e1, rfl⟩ := Option.map_eq_some_iff.mp e
    rw [show v = .bl _ from r1, rps_bools r2 e1]; rfl
theorem maxI_top (r : List Int) : ∀ (i m : Int), m ∈ i :: r → (∀ y ∈ i :: r, y ≤ m) → maxI i r = m := by
  induction r with
  | nil => intro i m hm _; exact (List.mem_singleton.mp hm).symm
  | cons j r ih =>
    intro i m hm hy
    have hi := hy i List.mem_cons_self
    have hj := hy j (List.mem_cons_of_mem _ List.mem_cons_self)
    show maxI (if i < j then j else i) r = m
    refine ih _ m ?_ fun y h => ?_
    · rcases List.mem_cons.mp hm with e | e
      · subst e; rw [if_neg (by omega)]; exact List.mem_cons_self
      · rcases List.mem_cons.mp e with e | e
        · subst e
          split
          · exact List.mem_cons_self
          · have : i = m := by omega
            rw [this]; exact List.mem_cons_self
        · exact List.mem_cons_of_mem _ e
    · rcases List.mem_cons.mp h with e | e
      · rw [e]; split <;> assumption
      · exact hy y (List.mem_cons_of_mem _ (List.mem_cons_of_mem _ e))
theorem minI_top (r : List Int) : ∀ (i m : Int), m ∈ i :: r → (∀ y ∈ i :: r, m ≤ y) → minI i r = m := by
  induction r with
  | nil => intro i m hm _; exact (List.mem_singleton.mp hm).symm
  | cons j r ih =>
    intro i m hm hy
    have hi := hy i List.mem_cons_self
    have hj := hy j (List.mem_cons_of_mem _ List.mem_cons_self)
    show minI (if j < i then j else i) r = m
    refine ih _ m ?_ fun y h => ?_
    · rcases List.mem_cons.mp hm with e | e
      · subst e; rw [if_neg (by omega)]; exact List.mem_cons_self
      · rcases List.mem_cons.mp e with e | e
        · subst e
          split
          · exact List.mem_cons_self
          · have : i = m := by omega
            rw [this]; exact List.mem_cons_self
        · exact List.mem_cons_of_mem _ e
    · rcases List.mem_cons.mp h with e | e
      · rw [e]; split <;> assumption
      · exact hy y (List.mem_cons_of_mem _ (List.mem_cons_of_mem _ e))
theorem vwl1 {S H : Hp} {d : D} {vs : List V} (h : VwL G S H [d] vs) : ∃ v, vs = [v] ∧ Vw G S H d v := by
  obtain ⟨v, q, rfl, h1, h2⟩ := h
  rw [show q = [] from h2]; exact ⟨v, rfl, h1⟩
theorem vwl2 {S H : Hp} {d d' : D} {vs : List V} (h : VwL G S H [d, d'] vs) : ∃ v u, vs = [v, u] ∧ Vw G S H d v ∧ Vw G S H d' u := by
  obtain ⟨v, q, rfl, h1, u, q', rfl, h2, h3⟩ := h
  rw [show q' = [] from h3]; exact ⟨v, u, rfl, h1, h2⟩
theorem bl_all (g : Good G N sc (k + 1) X) (cf : Cfs G P cl k) (hx : PassesAt (L2.CX X.prog X.w) X σ E) {b : Bf} {x : Str} (h : Bf.of x = some b) : BlOk G P cl X E σ b x := by
  have hc := g.calm
  unfold Bf.of at h
  by_cases h1 : x = "len"
  · rw [if_pos h1] at h; cases h; subst h1
    let rO : List V → Hp → VK → Prop := fun xs H Q => ∃ c : Str, (P.cls c).isSome = true ∧ P.isFn c "__len__" = true ∧ ∃ a dx fs, xs = [.ref a] ∧ H a = some (.ins (clsAt G.mg c) dx fs) ∧ spOf G cl c "__len__" [.ref a] H (fun v H1 => ∃ i : Int, v = .int i ∧ 0 ≤ i ∧ i < 2 ^ 63 ∧ Q (.int i) H1) E
    have cO : CallRs X σ (.builtin "len") rO := by
      refine callr_ex fun c => callr_if fun h1 => callr_if fun h2 => ?_
      obtain ⟨d, hd⟩ := Option.isSome_iff_exists.mp h1
      obtain ⟨f, o, F⟩ := (cf.cls c d hd).spec "__len__" h2 (.inr rfl)
      exact call_lenO (g.fnr F) g.room hx (by rw [g.K]; exact o)
    refine ⟨.builtin "len", _, by decide +kernel, .inl ⟨_, rfl⟩, by decide, (CallRs.of (call_len_seq.or cr_len_dic)).or cO, fun {S H L h ws vs Q} ok rw hp => ?_⟩
    unfold blM at hp
    rw [if_pos rfl] at hp
    split at hp
    · rename_i c w e
      unfold lenOwn at e
      split at e
      · rename_i c' fs
        cases e
        split at hp
        · rename_i hb
          simp only [Bool.and_eq_true] at hb
          obtain ⟨v, q, rfl, r1, r2⟩ := rw
          have r2 : q = [] := r2
          subst r2
          obtain ⟨a, dx, us, rfl, h2, h3⟩ := r1
          refine .inr ⟨c, hb.1, hb.2, a, dx, us, rfl, ok.sub _ _ h2, S, L, h, [.d (.ins c fs)], ok, ⟨_, _, rfl, ⟨a, dx, us, rfl, h2, h3⟩, rfl⟩, ?_⟩
          refine hp.bind.imp fun v h' q L' S' H' vv st ok' hv => ?_
          have q' : Post G E L S H (match v with | .w (.d (.int i)) => if 0 ≤ i ∧ i < 2 ^ 63 then Out.ok (vI i) h' else .bad | _ => .bad) (RV G L S H Q) := q
          split at q'
          · rename_i i
            split at q'
            · rename_i hi
              exact ⟨i, hv, hi.1, hi.2, q' L' S' H' _ st ok' rfl⟩
            · exact q'.elim
          · exact q'.elim
        · exact hp.elim
      · cases e
    · split at hp
      · rename_i ds e1
        split at hp
        · rename_i v e2
          have rr := rdAll_ok ok rw e1
          unfold bltD at e2
          split at e2 <;> first | (cases e2; done) | skip
          all_goals first | contradiction | skip
          · cases e2
            obtain ⟨v, rfl, hv⟩ := vwl1 rr
            obtain ⟨a, ys, rfl, sq, rs⟩ := vw_seq hv
            exact .inl (.inl ⟨a, ys, rfl, .inl (by rw [g.K]; exact sq), by rw [rs.len]; exact rv_now ok hp rfl⟩)
          · cases e2
            obtain ⟨v, rfl, hv⟩ := vwl1 rr
            obtain ⟨a, ys, rfl, sq, rs⟩ := vw_sqt ok.sub hv
            exact .inl (.inl ⟨a, ys, rfl, .inr (by rw [g.K]; exact sq), by rw [rs.len]; exact rv_now ok hp rfl⟩)
          · cases e2
            obtain ⟨v, rfl, hv⟩ := vwl1 rr
            obtain ⟨a, l, rfl, rd, rk, _⟩ := hv
            exact .inl (.inr ⟨a, l, rfl, by rw [g.w]; exact rd, by rw [rk.len]; exact rv_now ok hp rfl⟩)
        · exact hp.elim
      · exact hp.elim
  rw [if_neg h1] at h
  by_cases h1 : x = "int"
  · rw [if_pos h1] at h; cases h; subst h1
    refine bl_of (by decide) (f := .type "int") (by decide +kernel) (.inr ⟨_, rfl⟩) (by decide) call_int1 fun {S H L h ds vs v Q} ok rr e2 hq => ?_
    unfold bltD at e2
    split at e2 <;> first | (cases e2; done) | contradiction | skip
    · cases e2
      obtain ⟨v, rfl, hv⟩ := vwl1 rr
      exact .inl ⟨_, by rw [show v = .int _ from hv], rv_now ok hq rfl⟩
    · cases e2
      obtain ⟨v, rfl, hv⟩ := vwl1 rr
      exact .inr ⟨_, by rw [show v = .bl _ from hv], rv_now ok hq rfl⟩
  rw [if_neg h1] at h
  by_cases h1 : x = "abs"
  · rw [if_pos h1] at h; cases h; subst h1
    refine bl_of (by decide) (f := .builtin "abs") (by decide +kernel) (.inl ⟨_, rfl⟩) (by decide) call_abs fun {S H L h ds vs v Q} ok rr e2 hq => ?_
    unfold bltD at e2
    split at e2 <;> first | (cases e2; done) | contradiction | skip
    · cases e2
      obtain ⟨v, rfl, hv⟩ := vwl1 rr
      exact ⟨_, by rw [show v = .int _ from hv], rv_now ok hq rfl⟩
  rw [if_neg h1] at h
  by_cases h1 : x = "min"
  · rw [if_pos h1] at h; cases h; subst h1
    refine bl_of (by decide) (f := .builtin "min") (by decide +kernel) (.inl ⟨_, rfl⟩) (by decide) ((call_min2 hc).or (cr_min hc)) fun {S H L h ds vs v Q} ok rr e2 hq => ?_
    unfold bltD at e2
    split at e2 <;> first | (cases e2; done) | contradiction | skip
    · cases e2
      obtain ⟨v, u, rfl, hv, hu⟩ := vwl2 rr
      exact .inl ⟨_, _, by rw [show v = .int _ from hv, show u = .int _ from hu], rv_now ok hq rfl⟩
    · obtain ⟨w, rfl, hv⟩ := vwl1 rr
      obtain ⟨a, ys, rfl, sq, rs⟩ := vw_seq hv
      split at e2
      · rename_i i r e3
        cases e2
        have := rps_ints rs e3
        subst this
        exact .inr ⟨a, i :: r, rfl, by rw [g.K]; exact sq, by simp, fun m h1 h2 => by
          rw [← minI_top r i m h1 h2]
          exact rv_now ok hq rfl⟩
      · cases e2
  rw [if_neg h1] at h
  by_cases h1 : x = "max"
  · rw [if_pos h1] at h; cases h; subst h1
    refine bl_of (by decide) (f := .builtin "max") (by decide +kernel) (.inl ⟨_, rfl⟩) (by decide) ((call_max2 hc).or (cr_max hc)) fun {S H L h ds vs v Q} ok rr e2 hq => ?_
    unfold bltD at e2
    split at e2 <;> first | (cases e2; done) | contradiction | skip
    · cases e2
      obtain ⟨v, u, rfl, hv, hu⟩ := vwl2 rr
      exact .inl ⟨_, _, by rw [show v = .int _ from hv, show u = .int _ from hu], rv_now ok hq rfl⟩
    · obtain ⟨w, rfl, hv⟩ := vwl1 rr
      obtain ⟨a, ys, rfl, sq, rs⟩ := vw_seq hv
      split at e2
      · rename_i i r e3
        cases e2
        have := rps_ints rs e3
        subst this
        exact .inr ⟨a, i :: r, rfl, by rw [g.K]; exact sq, by simp, fun m h1 h2 => by
          rw [← maxI_top r i m h1 h2]
          exact rv_now ok hq rfl⟩
      · cases e2
  rw [if_neg h1] at h
  by_cases h1 : x = "sum"
  · rw [if_pos h1] at h; cases h; subst h1
    refine bl_of (by decide) (f := .builtin "sum") (by decide +kernel) (.inl ⟨_, rfl⟩) (by decide) (cr_sum hc) fun {S H L h ds vs v Q} ok rr e2 hq => ?_
    unfold bltD at e2
    split at e2 <;> first | (cases e2; done) | contradiction | skip
    · obtain ⟨w, rfl, hv⟩ := vwl1 rr
      obtain ⟨a, ys, rfl, sq, rs⟩ := vw_seq hv
      obtain ⟨l, e3, rfl⟩ := Option.map_eq_some_iff.mp e2
      have := rps_ints rs e3
      subst this
      exact ⟨a, l, rfl, by rw [g.K]; exact sq, rv_now ok hq rfl⟩
  rw [if_neg h1] at h
  by_cases h1 : x = "all"
  · rw [if_pos h1] at h; cases h; subst h1
    refine bl_of (by decide) (f := .builtin "all") (by decide +kernel) (.inl ⟨_, rfl⟩) (by decide) (cr_all hc) fun {S H L h ds vs v Q} ok rr e2 hq => ?_
    unfold bltD at e2
    split at e2 <;> first | (cases e2; done) | contradiction | skip
    · obtain ⟨w, rfl, hv⟩ := vwl1 rr
      obtain ⟨a, ys, rfl, sq, rs⟩ := vw_seq hv
      obtain ⟨l, e3, rfl⟩ := Option.map_eq_some_iff.mp e2
      have := rps_bools rs e3
      subst this
      exact ⟨a, l, rfl, by rw [g.K]; exact sq, rv_now ok hq rfl⟩
  rw [if_neg h1] at h
  by_cases h1 : x = "any"
  · rw [if_pos h1] at h; cases h; subst h1
    refine bl_of (by decide) (f := .builtin "any") (by decide +kernel) (.inl ⟨_, rfl⟩) (by decide) (cr_any hc) fun {S H L h ds vs v Q} ok rr e2 hq => ?_
    unfold bltD at e2
    split at e2 <;> first | (cases e2; done) | contradiction | skip
    · obtain ⟨w, rfl, hv⟩ := vwl1 rr
      obtain ⟨a, ys, rfl, sq, rs⟩ := vw_seq hv
      obtain ⟨l, e3, rfl⟩ := Option.map_eq_some_iff.mp e2
      have := rps_bools rs e3
      subst this
      exact ⟨a, l, rfl, by rw [g.K]; exact sq, rv_now ok hq rfl⟩
  rw [if_neg h1] at h
  by_cases h1 : x = "sorted"
  · rw [if_pos h1] at h; cases h; subst h1
    refine bl_of (by decide) (f := .builtin "sorted") (by decide +kernel) (.inl ⟨_, rfl⟩) (by decide) (cr_sorted_dic (by have := g.room.un; omega) hc) fun {S H L h ds vs v Q} ok rr e2 hq => ?_
    unfold bltD at e2
    split at e2 <;> first | (cases e2; done) | contradiction | skip
    · obtain ⟨w, rfl, hv⟩ := vwl1 rr
      obtain ⟨l, e3, rfl⟩ := Option.map_eq_some_iff.mp e2
      exact sorted_rel g ok hv e3 hq
  rw [if_neg h1] at h
  by_cases h1 : x = "list"
  · rw [if_pos h1] at h; cases h; subst h1
    refine bl_of (by decide) (f := .type "list") (by decide +kernel) (.inr ⟨_, rfl⟩) (by decide) call_list_of fun {S H L h ds vs v Q} ok rr e2 hq => ?_
    unfold bltD at e2
    split at e2 <;> first | (cases e2; done) | contradiction | skip
    · cases e2
      obtain ⟨w, rfl, hv⟩ := vwl1 rr
      obtain ⟨a, ys, rfl, sq, rs⟩ := vw_seq hv
      exact ⟨a, ys, rfl, .inl (by rw [g.K]; exact sq), fun p hp => rv_lst ok hq rs hp⟩
    · cases e2
      obtain ⟨w, rfl, hv⟩ := vwl1 rr
      obtain ⟨a, ys, rfl, sq, rs⟩ := vw_sqt ok.sub hv
      exact ⟨a, ys, rfl, .inr (by rw [g.K]; exact sq), fun p hp => rv_lst ok hq rs hp⟩
  rw [if_neg h1] at h
  by_cases h1 : x = "dict"
  · rw [if_pos h1] at h; cases h; subst h1
    refine bl_of (by decide) (f := .type "dict") (by decide +kernel) (.inr ⟨_, rfl⟩) (by decide) ((cr_dictP (by have := g.room.un; omega) hc).or cr_dictC) fun {S H L h ds vs v Q} ok rr e2 hq => ?_
    unfold bltD at e2
    split at e2 <;> first | (cases e2; done) | contradiction | skip
    · obtain ⟨w, rfl, hv⟩ := vwl1 rr
      obtain ⟨a, l, rfl, rd, rk, nd⟩ : ∃ a, ∃ l : List DE, w = .ref a ∧ Rd H a (dicO G.w a l) ∧ Rpk G S _ l ∧ (l.map fun p : DE => p.1).Nodup := hv
      split at e2
      · rename_i ks hks
        split at e2
        · rename_i hap
          cases e2
          rw [← rpk_hks rk hks] at hap
          obtain ⟨t1, t2⟩ := apart_ok (w := G.w) hap
          refine .inr ⟨a, l, rfl, by rw [g.w]; exact rd, by rw [g.K]; exact (rk.dicw nd).ext fun b xs e => ok.sub _ _ e, t1, by rw [g.w]; exact t2, fun p hp => ?_⟩
          rw [g.w]
          exact rv_dic ok hq rk nd hp
        · cases e2
      · cases e2
    · rename_i xs
      obtain ⟨w, rfl, hv⟩ := vwl1 rr
      obtain ⟨a, ys, rfl, sq, rs⟩ := vw_seq hv
      obtain ⟨kvs, e3, rfl⟩ := Option.map_eq_some_iff.mp e2
      obtain ⟨ps, e4, e5, e6⟩ := dictP_ok ok.sub rs (l := []) (show Rpk G S [] [] from rfl) List.nodup_nil e3
      refine .inl ⟨a, ys, ps, rfl, by rw [g.K]; exact sq, by rw [g.K]; exact e4, fun p hp => ?_⟩
      rw [g.w]
      exact rv_dic ok hq e5 e6 hp
  rw [if_neg h1] at h
  by_cases h1 : x = "repr"
  · rw [if_pos h1] at h; cases h; subst h1
    refine bl_of (by decide) (f := .builtin "repr") (by decide +kernel) (.inl ⟨_, rfl⟩) (by decide) (cr_repr (G := G) g.room g.K) fun {S H L h ds vs v Q} ok rr e2 hq => ?_
    unfold bltD at e2
    split at e2 <;> first | (cases e2; done) | contradiction | skip
    · obtain ⟨w, rfl, hv⟩ := vwl1 rr
      obtain ⟨a, l, rfl, rd, rk, nd⟩ : ∃ a, ∃ l : List DE, w = .ref a ∧ Rd H a (dicO G.w a l) ∧ Rpk G S _ l ∧ (l.map fun p : DE => p.1).Nodup := hv
      obtain ⟨t, e3, rfl⟩ := Option.map_eq_some_iff.mp e2
      exact ⟨S, a, l, _, t, ok.sub, rfl, by rw [g.w]; exact rd, rk, e3, rv_now ok hq rfl⟩
  rw [if_neg h1] at h
  cases h
theorem snd_callB (g : Good G N sc (k + 1) X) (cf : Cfs G P cl k) (hx : PassesAt (L2.CX X.prog X.w) X σ E) {x : Str} {es : List Expr} {ms : List M} {b : Bf} (hg : isGl sc x = true) (hl : SndL G P cl X E σ es ms) (hf : ¬ P.isFn "" x = true) (hc : P.cls x = none) (hfr : P.free x = true) (hb : Bf.of x = some b) : SndE G P cl X E σ (.Call (.Name x p) es [] pos) (.call x ms) := fun ρ S L h H ok en Q hp => by
  replace hp := call_hp (by simp [callOk, hc, hfr, hb]) hp
  obtain ⟨f, r, h1, h2, h3, h4, h5⟩ := bl_all (E := E) g cf hx hb
  have hm' : X.mg x = none := by rw [g.mg]; exact cf.free x hfr
  have un : ∀ ws h, callM P cl x ws h = blM P cl b ws h := fun ws h => by
    unfold callM
    rw [if_neg hf, hc]
    simp only [hfr, hb, if_true]
  refine we_call (r := fun vs H1 => r vs H1 Q) hl ok en (fun he q => ?_) (fun e r' he q => ?_) (K := fun ws h => callM P cl x ws h) hp fun ws h1 vs L1 S1 H1 st ok1 r2 hp1 => ?_
  · exfalso
    subst he
    have e : ms = [] := hl
    subst e
    have hp2 : Post G E L S H (callM P cl x [] h) (RV G L S H Q) := hp
    rw [un] at hp2
    have e2 : blM P cl b [] h = .bad := by cases b <;> rfl
    rw [e2] at hp2
    exact hp2
  · subst he
    obtain ⟨m, q', rfl, e1, e2, e3⟩ := hl
    rcases h2 with ⟨id, rfl⟩ | ⟨T, rfl⟩
    · exact we_callB h4 (g.gl hg) hm' h1 h3 (hdb_of hg) (star_cons (env := fun _ => X.env) e1) (star_plain e3) q
    · exact we_callTy h4 (g.gl hg) hm' h1 h3 (hdb_of hg) (star_cons (env := fun _ => X.env) e1) (star_plain e3) q
  · rw [un] at hp1
    exact h5 ok1 r2 (hp1.imp fun _ _ q => RV.shift st q)
end
end Pe
set_option maxHeartbeats 4000000
namespace Pe
open PySem PySem.Spec PyProof.Rows L2
/-! ### max with a default -/
section
variable {G : Gx} {P : Prog} {cl : Cl} {X : Cx} {E : XK} {σ : L2.St} {pos p : Pos} {N : List Str} {sc : Scope} {k : Nat}
theorem maxD_maxI (r : List Int) (i : Int) : PySem.W.maxD (.int i) (r.map .int) = .int (maxI i r) := by
  rw [PySem.W.maxD_ints]
  have e : (fun a b : Int => if a < b then b else a) = max := by
    funext a b
    rw [Int.max_def]
    split <;> split <;> omega
  unfold maxI
  rw [e]
theorem ints_reads {h : Heap} : ∀ {ns : List Int} {us : List Value}, Vals (ns.map V.int) us → ReadsAll h us (ns.map .int) []
  | [], us, r => by cases r; exact .nil
  | n :: ns, us, r => by
    cases r with
    | cons a b =>
      obtain ⟨t, rfl⟩ := a
      exact ReadsAll.cons (as := []) (bs := []) (.int n t) (ints_reads b)
theorem ints_alike (ns : List Int) : PySem.W.AlikeAll (ns.map .int) := by
  refine ⟨fun x hx y hy => ?_, fun x hx => ?_⟩
  · obtain ⟨i, _, rfl⟩ := List.mem_map.mp hx
    obtain ⟨j, _, rfl⟩ := List.mem_map.mp hy
    rfl
  · obtain ⟨i, _, rfl⟩ := List.mem_map.mp hx
    exact nofun
theorem ints_depth (ns : List Int) : PyData.depthAll (ns.map .int) = 0 := by
  induction ns with
  | nil => simp [PyData.depthAll]
  | cons n r ih => simp [PyData.depthAll, PyData.depth, ih]
def maxOr (d : Int) : List Int → Int
  | [] => d
  | i :: r => maxI i r
/-- the call -/
theorem run_maxD {pins : List (Addr × Obj)} {H : Hp} {s : Shared} {Q : VK} {us ws : List Value} {a : Addr} {ns : List Int} {d : Int} (hr : Room k X.A) (I : Inv X pins σ H s) (r : Vals [V.ref a] us) (rz : Vals [V.int d] ws) (sq : SqL X.K H a (ns.map V.int)) (q : Q (.int (maxOr d ns)) H) :
    wpAny (model X.prog X.w) X.A (call (.builtin "max") us ([("default" : Str)].zip ws)) (EP X pins σ Q) X.xe s := by
  obtain ⟨u, rfl, ru⟩ := vals1 r
  obtain rfl : u = Value.ref a := ru
  obtain ⟨z, rfl, t, rfl⟩ := vals1 rz
  obtain ⟨its, rv, pl, _⟩ := I.list sq
  have hl := pl.isList
  have un := hr.un
  refine PySem.W.max_list_default (xs := ns.map .int) hr.hd hl (by simpa using ints_reads rv) (ints_alike ns) (by rw [ints_depth]; omega) (fun e h' tk hk => ?_) fun y ys i v h' tk bs e _ rd hk => ?_
  · have : ns = [] := List.map_eq_nil_iff.mp e
    subst this
    exact ⟨.int d, H, I.kept (t' := tk) hk, ⟨t, rfl⟩, q⟩
  · cases ns with
    | nil => cases e
    | cons n ns =>
      cases e
      rw [maxD_maxI] at rd
      cases rd
      exact ⟨.int _, H, I.kept (t' := tk) hk, ⟨_, rfl⟩, q⟩
theorem snd_maxD {x : Str} {e : Expr} {es : List Expr} {ms : List M} {kws : List Keyword} {vms : List (Str × M)} (g : Good G N sc (k + 1) X) (cf : Cfs G P cl k) (hg : isGl sc x = true) (hl : SndL G P cl X E σ (e :: es) ms) (hkw : SndK G P cl X E σ kws vms) (hm : maxOk P x ms.length (vms.map (·.1)) = true)
    {ρ : Pe.Env} {S : Hp} {L : List Addr} {h : Cells} {H : Hp} {Q : VK} (ok : Ok G S L h H) (en : EnvOk G S L ρ σ) (hp : Post G E L S H ((evalWs P cl ρ ms h).bind fun ws h => (evalWs P cl ρ (vms.map (·.2)) h).bind fun zs h => maxDM ws zs h) (RV G L S H Q)) :
    WE X (.Call (.Name x p) (e :: es) kws pos) σ H Q := by
  unfold maxOk at hm
  simp only [Bool.and_eq_true, decide_eq_true_eq] at hm
  obtain ⟨_, rfl, hfr, h1, hks⟩ := hm
  have hm' : X.mg "max" = none := by rw [g.mg]; exact cf.free "max" hfr
  have hl0 := hl
  obtain ⟨m, q', rfl, e1, e2, e3⟩ := hl
  intro pins s I
  obtain ⟨k1, k2, k3⟩ := hkw.facts (pos := pos)
  have key : WA X (e :: es) σ H fun vs H1 => WK X kws σ H1 fun zs H2 => ∃ (a : Addr) (ns : List Int) (d : Int), vs = [.ref a] ∧ zs = [.int d] ∧ SqL X.K H2 a (ns.map V.int) ∧ Q (.int (maxOr d ns)) H2 := by
    refine ws_a hl0 ok en hp fun ws h1 vs L1 S1 H1 st ok1 en1 r1 hp1 => ?_
    refine ks_a hkw ok1 en1 hp1 fun zs h2 us L2 S2 H2 st2 ok2 en2 r2 hp2 => ?_
    have r1' : WIss G S2 L2 ws vs := WIss.mono st2.s st2.pre r1
    unfold maxDM at hp2
    split at hp2
    · rename_i xs d hrd
      obtain ⟨v, rfl, hv⟩ := vwl1 (rdAll_ok ok2 r1' hrd)
      obtain ⟨a, ys, rfl, sq, rs⟩ := vw_seq hv
      obtain ⟨v2, q2, rfl, rd, rq⟩ := r2
      have rq : q2 = [] := rq
      subst rq
      have rd : v2 = .int d := rd
      subst rd
      split at hp2
      · rename_i i r e3
        have := rps_ints rs e3
        subst this
        exact ⟨a, i :: r, d, rfl, rfl, by rw [g.K]; exact sq, rv_now ok2 (RV.shift (st.trans st2) hp2) rfl⟩
      · rename_i e3
        have := rps_ints rs e3
        subst this
        exact ⟨a, [], d, rfl, rfl, by rw [g.K]; exact sq, rv_now ok2 (RV.shift (st.trans st2) hp2) rfl⟩
      · exact hp2.elim
    · exact hp2.elim
  have e1' : backTo pos (starEach (e :: es) X.env) = (false, eval e X.env) :: backTo pos (starEach es X.env) := by
    rw [star_cons (env := fun _ => X.env) e1]; rfl
  refine wpAny_Call_Name_kw (ld_blt I (g.gl hg) hm' (show bootBuiltins "max" = some (.builtin "max") by decide +kernel) ?_ (by decide) (hdb_of hg))
  refine callWith_kw (thn (key pos pins s I) fun us s1 ⟨vs, H1, I1, r, q⟩ => thn (q pos pins s1 I1) fun ws s2 ⟨zs, H2, I2, rz, a, ns, d, e4, e5, sq, q2⟩ => ?_) e1' (star_plain hl0) k1 k3
  subst e4 e5
  rw [k2, hks]
  exact run_maxD g.room I2 r rz sq q2
end
end Pe
set_option maxHeartbeats 4000000
namespace Pe
open PySem PySem.Spec PyProof.Rows L2
section
variable {G : Gx} {P : Prog} {cl : Cl} {X : Cx} {E : XK} {σ : L2.St} {a b c e o tg iter : Expr} {ma m : M} {pos apos cpos p p2 : Pos} {N : List Str} {sc : Scope} {k : Nat}
/-! ### what is walked over -/
/-- J gives xs, one after the other -/
def Yl (G : Gx) (S0 : Hp) (J : L2.It) (xs : List D) : Prop := ∀ i S L h H, Ext S0 S → Ok G S L h H → (∀ x, xs[i]? = some x → J.go i H ∧ ∀ v H', J.yld i H v H' → ∃ S2, Step L S H L S2 H' ∧ Ok G S2 L h H' ∧ Rp G S2 x v) ∧ (xs.length ≤ i → J.stop i H)
theorem Yl.ext {S S' : Hp} {J : L2.It} {xs : List D} (y : Yl G S J xs) (e : Ext S S') : Yl G S' J xs := fun i S2 L h H e2 ok => y i S2 L h H (e.trans e2) ok
def RI (G : Gx) (L : List Addr) (S H : Hp) (R : L2.It → Hp → Prop) : List D → Cells → Prop := fun xs h => ∀ L' S' H' J, Step L S H L' S' H' → Ok G S' L' h H' → Yl G S' J xs → R J H'
def SndI (G : Gx) (P : Prog) (cl : Cl) (X : Cx) (E : XK) (σ : L2.St) (tg iter : Expr) (w : Wk) : Prop := ∀ ρ S L h H, Ok G S L h H → EnvOk G S L ρ σ → ∀ R : L2.It → Hp → Prop, Post G E L S H (evalI P cl ρ w h) (RI G L S H R) → WI X tg iter σ H R
theorem yl_list {S : Hp} {a : Addr} {ys : List V} {xs : List D} (h : SqL G.K S a ys) (r : Rps G S xs ys) : Yl G S (Itl G.K a) xs := fun i S2 L hh H e ok => by
  have sq : SqL G.K H a ys := ext_sq ok.sub (ext_sq e h)
  refine ⟨fun x hx => ?_, fun hl => ⟨ys, sq, by rw [r.len]; exact hl⟩⟩
  obtain ⟨v, hv, rv⟩ := r.get hx
  refine ⟨⟨ys, v, sq, hv⟩, fun w H' hy => ?_⟩
  obtain ⟨rfl, hy⟩ := hy
  have := hy ys sq
  rw [hv] at this; cases this
  exact ⟨S2, Step.refl, ok, Rp.ext e _ _ rv⟩
theorem yl_tup {S : Hp} {a : Addr} {ys : List V} {xs : List D} (h : TupA G.K S a ys) (r : Rps G S xs ys) : Yl G S (Itt G.K a) xs := fun i S2 L hh H e ok => by
  have sq : SqT G.K H a ys := TupA.sq (h.imp (fun z => ok.sub _ _ (e _ _ z)) fun z => z)
  refine ⟨fun x hx => ?_, fun hl => ⟨ys, sq, by rw [r.len]; exact hl⟩⟩
  obtain ⟨v, hv, rv⟩ := r.get hx
  refine ⟨⟨ys, v, sq, hv⟩, fun w H' hy => ?_⟩
  obtain ⟨rfl, hy⟩ := hy
  have := hy ys sq
  rw [hv] at this; cases this
  exact ⟨S2, Step.refl, ok, Rp.ext e _ _ rv⟩
theorem Rpk.at' {S : Hp} : ∀ {kvs : List (D × D)} {l : List DE}, Rpk G S kvs l → ∀ {i : Nat} {q : D × D}, kvs[i]? = some q → ∃ p, l[i]? = some p ∧ Rp G S q.1 p.2.1 ∧ Rp G S q.2 p.2.2 := fun {kvs l} r {i q} e => by
  have hi : i < l.length := by rw [r.len]; exact (List.getElem?_eq_some_iff.mp e).1
  obtain ⟨q', e2, r1, r2⟩ := r.at (p := l[i]) (List.getElem?_eq_getElem hi)
  rw [e] at e2; cases e2
  exact ⟨l[i], List.getElem?_eq_getElem hi, r1, r2⟩
theorem yl_dK {S : Hp} {d : Addr} {o : Obj} {l : List DE} {kvs : List (D × D)} (h : S d = some (.frz o (dicO G.w d l))) (r : Rpk G S kvs l) : Yl G S (ItK G.w d o l) (kvs.map (·.1)) := fun i S2 L hh H e ok => by
  have fz := ok.sub _ _ (e _ _ h)
  refine ⟨fun x hx => ?_, fun hl => ⟨fz, by rw [r.len]; simpa using hl⟩⟩
  rw [List.getElem?_map] at hx
  obtain ⟨q, hq, rfl⟩ := Option.map_eq_some_iff.mp hx
  obtain ⟨p, hp, r1, r2⟩ := r.at' hq
  refine ⟨⟨fz, (List.getElem?_eq_some_iff.mp hp).1⟩, fun w H' hy => ?_⟩
  obtain ⟨rfl, p', hp', rfl⟩ := hy
  rw [hp] at hp'; cases hp'
  exact ⟨S2, Step.refl, ok, Rp.ext e _ _ r1⟩
theorem yl_dV {S : Hp} {d : Addr} {o : Obj} {l : List DE} {kvs : List (D × D)} (h : S d = some (.frz o (dicO G.w d l))) (r : Rpk G S kvs l) : Yl G S (ItV G.w d o l) (kvs.map (·.2)) := fun i S2 L hh H e ok => by
  have fz := ok.sub _ _ (e _ _ h)
  refine ⟨fun x hx => ?_, fun hl => ⟨fz, by rw [r.len]; simpa using hl⟩⟩
  rw [List.getElem?_map] at hx
  obtain ⟨q, hq, rfl⟩ := Option.map_eq_some_iff.mp hx
  obtain ⟨p, hp, r1, r2⟩ := r.at' hq
  refine ⟨⟨fz, (List.getElem?_eq_some_iff.mp hp).1⟩, fun w H' hy => ?_⟩
  obtain ⟨rfl, p', hp', rfl⟩ := hy
  rw [hp] at hp'; cases hp'
  exact ⟨S2, Step.refl, ok, Rp.ext e _ _ r2⟩
theorem tup2_new {S : Hp} {L : List Addr} {h : Cells} {H : Hp} {T : Addr} {x y : D} {u v : V} (ok : Ok G S L h H) (hT : H T = none) (r1 : Rp G S x u) (r2 : Rp G S y v) : ∃ S2, Step L S H L S2 (upd H T (.tup [u, v])) ∧ Ok G S2 L h (upd H T (.tup [u, v])) ∧ Rp G S2 (.tup [x, y]) (.ref T) := by
  obtain ⟨o2, s2⟩ := tuple_new ok (xs := [u, v]) hT
  have e := ext_new (o := HO.tup [u, v]) (ok.free hT).1
  exact ⟨_, s2, o2, T, [u, v], rfl, .inl upd_same, u, [v], rfl, Rp.ext e _ _ r1, v, [], rfl, Rp.ext e _ _ r2, rfl⟩
theorem yl_dI {S : Hp} {d : Addr} {o : Obj} {l : List DE} {kvs : List (D × D)} (h : S d = some (.frz o (dicO G.w d l))) (r : Rpk G S kvs l) : Yl G S (ItI G.w d o l) (kvs.map fun p => .tup [p.1, p.2]) := fun i S2 L hh H e ok => by
  have fz := ok.sub _ _ (e _ _ h)
  refine ⟨fun x hx => ?_, fun hl => ⟨fz, by rw [r.len]; simpa using hl⟩⟩
  rw [List.getElem?_map] at hx
  obtain ⟨q, hq, rfl⟩ := Option.map_eq_some_iff.mp hx
  obtain ⟨p, hp, r1, r2⟩ := r.at' hq
  refine ⟨⟨fz, (List.getElem?_eq_some_iff.mp hp).1⟩, fun w H' hy => ?_⟩
  obtain ⟨T, p', hp', rfl, hT, rfl⟩ := hy
  rw [hp] at hp'; cases hp'
  exact tup2_new ok hT (Rp.ext e _ _ r1) (Rp.ext e _ _ r2)
theorem enumD_get : ∀ {xs : List D} {j : Int} {i : Nat} {x : D}, (enumD j xs)[i]? = some x → ∃ y, xs[i]? = some y ∧ x = .tup [.int (j + i), y]
  | [], j, i, x, h => by unfold enumD at h; simp at h
  | y :: r, j, i, x, h => by
    unfold enumD at h
    cases i with
    | zero => simp at h; exact ⟨y, rfl, by rw [← h]; simp⟩
    | succ i =>
      obtain ⟨z, h1, h2⟩ := enumD_get (j := j + 1) (by simpa using h)
      refine ⟨z, by simpa using h1, ?_⟩
      rw [h2]
      have : j + 1 + (i : Int) = j + ((i + 1 : Nat) : Int) := by omega
      rw [this]
theorem enumD_len : ∀ {xs : List D} {j : Int}, (enumD j xs).length = xs.length
  | [], _ => rfl
  | _ :: r, j => by unfold enumD; rw [List.length_cons, List.length_cons, enumD_len]
theorem yl_enum {S : Hp} {a : Addr} {ys : List V} {xs : List D} (h : SqL G.K S a ys) (r : Rps G S xs ys) : Yl G S (Ite G.K a) (enumD 0 xs) := fun i S2 L hh H e ok => by
  have sq : SqL G.K H a ys := ext_sq ok.sub (ext_sq e h)
  refine ⟨fun x hx => ?_, fun hl => ⟨ys, sq, by rw [r.len, ← enumD_len (j := 0)]; exact hl⟩⟩
  obtain ⟨y, hy, rfl⟩ := enumD_get hx
  obtain ⟨v, hv, rv⟩ := r.get hy
  refine ⟨⟨ys, v, sq, hv⟩, fun w H' hy => ?_⟩
  obtain ⟨T, z, rfl, hT, rfl, hy⟩ := hy
  have := hy ys sq
  rw [hv] at this; cases this
  exact tup2_new ok hT (by show V.int _ = V.int _; rw [Int.zero_add]) (Rp.ext e _ _ rv)
theorem yl_range {S : Hp} {n : Int} : Yl G S (Itr 0 n.toNat) (rangeD n) := fun i S2 L hh H e ok => by
  have hl : (rangeD n).length = n.toNat := by unfold rangeD; simp
  refine ⟨fun x hx => ?_, fun h => by rw [hl] at h; exact h⟩
  have hi : i < n.toNat := by rw [← hl]; exact (List.getElem?_eq_some_iff.mp hx).1
  refine ⟨hi, fun w H' hy => ?_⟩
  obtain ⟨rfl, rfl⟩ := hy
  refine ⟨S2, Step.refl, ok, ?_⟩
  unfold rangeD at hx
  rw [List.getElem?_map, List.getElem?_range hi] at hx
  cases hx
  show V.int _ = V.int _
  rw [Int.zero_add]
/-- the outcome of e is known ahead -/
theorem known {ρ : Pe.Env} {σ : L2.St} {S H : Hp} {L : List Addr} {h h1 : Cells} {x : D} {Q : VK} (ha : SndE G P cl X E σ e m) (ok : Ok G S L h H) (en : EnvOk G S L ρ σ) (q : (evalE P cl ρ m h).toD = .ok x h1) (k : ∀ L' S' H' v, Step L S H L' S' H' → Ok G S' L' h1 H' → Rp G S' x v → Q v H') : WE X e σ H Q :=
  (ha ρ S L h H ok en).toD (by rw [q]; exact fun L' S' H' v st ok r => k L' S' H' v st ok r)
theorem thrown {ρ : Pe.Env} {σ : L2.St} {S H : Hp} {L : List Addr} {h : Cells} {Q : VK} {β : Type} {f : D → Cells → Out β} {R : β → Cells → Prop} (ha : SndE G P cl X E σ e m) (ok : Ok G S L h H) (en : EnvOk G S L ρ σ) (q : ∀ x h1, (evalE P cl ρ m h).toD ≠ .ok x h1) (hp : Post G E L S H ((evalE P cl ρ m h).toD.bind f) R) : WE X e σ H Q := by
  refine (ha ρ S L h H ok en).toD ?_
  revert hp q
  generalize (evalE P cl ρ m h).toD = oo
  intro q hp
  cases oo with
  | ok x h1 => exact absurd rfl (q x h1)
  | exc x h1 => exact hp
  | bad => exact hp
theorem snd_wval (g : Good G N sc k X) (ha : SndE G P cl X E σ iter m) : SndI G P cl X E σ tg iter (.val m) := fun ρ S L h H ok en R hp => by
  have hp' : Post G E L S H ((evalE P cl ρ m h).toD.bind fun x h => match x with
    | .lst xs => .ok xs h
    | .tup xs => .ok xs h
    | .dic kvs => .ok (kvs.map (·.1)) h
    | _ => .bad) (RI G L S H R) := hp
  by_cases q : ∃ x h1, (evalE P cl ρ m h).toD = .ok x h1
  · obtain ⟨x, h1, q⟩ := q
    rw [q] at hp'
    cases x with
    | lst xs => exact WI.of (pi_list peS) (known ha ok en q fun L' S' H' v st ok' r => by
        obtain ⟨a, ys, rfl, h2, rs⟩ := r
        exact ⟨a, rfl, ⟨ys, by rw [g.K]; exact ext_sq ok'.sub h2⟩, by rw [g.K]; exact hp' L' S' H' _ st ok' (yl_list h2 rs)⟩)
    | tup xs => exact WI.of (pi_tup peS) (known ha ok en q fun L' S' H' v st ok' r => by
        obtain ⟨a, ys, rfl, h2, rs⟩ := r
        exact ⟨a, rfl, ⟨ys, by rw [g.K]; exact TupA.sq (h2.imp (ok'.sub _ _) fun z => z)⟩, by rw [g.K]; exact hp' L' S' H' _ st ok' (yl_tup h2 rs)⟩)
    | dic kvs => exact WI.of (pi_dK peS) (known ha ok en q fun L' S' H' v st ok' r => by
        obtain ⟨a, o, l, rfl, h2, rs, _⟩ := r
        exact ⟨a, o, l, rfl, by rw [g.w]; exact ok'.sub _ _ h2, by rw [g.w]; exact hp' L' S' H' _ st ok' (yl_dK h2 rs)⟩)
    | _ => exact hp'.elim
  · exact WI.of (pi_list peS) (thrown ha ok en (fun x h1 z => q ⟨x, h1, z⟩) hp')
theorem snd_witems {elts : List Expr} {kk : Nat} {tpos : Pos} (g : Good G N sc k X) (ha : SndE G P cl X E σ e m) (hb : notSuper e = true) (hline : (apos.endLine == cpos.line) = true) : SndI G P cl X E σ (.Tuple elts kk tpos) (.Call (.Attribute e "items" apos) [] [] cpos) (.items m) := fun ρ S L h H ok en R hp =>
  WI.of (pi_dI peS (base_of hb _ _) hline) (one_d ha ok en (K := fun x h => match x with
    | .dic kvs => .ok (kvs.map fun p => D.tup [p.1, p.2]) h
    | _ => .bad) hp fun x h1 v L1 S1 H1 st ok1 en1 r hp1 => by
    split at hp1
    · obtain ⟨a, o, l, rfl, h2, rs, _⟩ := r
      exact ⟨a, o, l, rfl, by rw [g.w]; exact ok1.sub _ _ h2, by rw [g.w]; exact hp1 L1 S1 H1 _ st ok1 (yl_dI h2 rs)⟩
    · exact hp1.elim)
theorem snd_wvalues (g : Good G N sc k X) (ha : SndE G P cl X E σ e m) (hb : notSuper e = true) (hline : (apos.endLine == cpos.line) = true) : SndI G P cl X E σ tg (.Call (.Attribute e "values" apos) [] [] cpos) (.values m) := fun ρ S L h H ok en R hp =>
  WI.of (pi_dV peS (base_of hb _ _) hline) (one_d ha ok en (K := fun x h => match x with
    | .dic kvs => .ok (kvs.map (·.2)) h
    | _ => .bad) hp fun x h1 v L1 S1 H1 st ok1 en1 r hp1 => by
    split at hp1
    · obtain ⟨a, o, l, rfl, h2, rs, _⟩ := r
      exact ⟨a, o, l, rfl, by rw [g.w]; exact ok1.sub _ _ h2, by rw [g.w]; exact hp1 L1 S1 H1 _ st ok1 (yl_dV h2 rs)⟩
    · exact hp1.elim)
theorem snd_wrange (g : Good G N sc k X) (pf : PF G P) (ha : SndE G P cl X E σ a m) (hs : notStar a = true) (hg : isGl sc "range" = true) : SndI G P cl X E σ tg (.Call (.Name "range" p) [a] [] pos) (.range m) := fun ρ S L h H ok en R hp => by
  have hp' : Post G E L S H (if P.free "range" = true then (evalE P cl ρ m h).toD.bind fun x h => (match x with
    | .int n => if -(2 ^ 62) ≤ n ∧ n < 2 ^ 62 then .ok (rangeD n) h else .bad
    | _ => .bad : Out (List D)) else .bad) (RI G L S H R) := hp
  split at hp'
  · rename_i hf
    refine WI.of (pi_range1 (g.gl hg) (by rw [g.mg]; exact pf.free _ hf) (pa_cons peS pa_nil (star_cons (env := fun _ => X.env) hs)) (by rw [star_cons (env := fun _ => X.env) hs]; rfl)) (one_d ha ok en hp' fun x h1 v L1 S1 H1 st ok1 en1 r hp1 => ?_)
    split at hp1
    · rename_i n
      split at hp1
      · rename_i hn
        exact ⟨n, by rw [show v = .int n from r], hn.1, hn.2, hp1 L1 S1 H1 _ st ok1 yl_range⟩
      · exact hp1.elim
    · exact hp1.elim
  · exact hp'.elim
theorem yl_range2 {S : Hp} {a b : Int} : Yl G S (Itr a (b - a).toNat) (rangeD2 a b) := fun i S2 L hh H e ok => by
  have hl : (rangeD2 a b).length = (b - a).toNat := by unfold rangeD2; simp
  refine ⟨fun x hx => ?_, fun h => by rw [hl] at h; exact h⟩
  have hi : i < (b - a).toNat := by rw [← hl]; exact (List.getElem?_eq_some_iff.mp hx).1
  refine ⟨hi, fun w H' hy => ?_⟩
  obtain ⟨rfl, rfl⟩ := hy
  refine ⟨S2, Step.refl, ok, ?_⟩
  unfold rangeD2 at hx
  rw [List.getElem?_map, List.getElem?_range hi] at hx
  cases hx
  rfl
theorem snd_wrange2 {m2 : M} (g : Good G N sc k X) (pf : PF G P) (ha : SndE G P cl X E σ a m) (hb : SndE G P cl X E σ b m2) (hs : notStar a = true) (hs2 : notStar b = true) (hg : isGl sc "range" = true) : SndI G P cl X E σ tg (.Call (.Name "range" p) [a, b] [] pos) (.range2 m m2) := fun ρ S L h H ok en R hp => by
  have hp' : Post G E L S H (if P.free "range" = true then (evalE P cl ρ m h).toD.bind fun x h => (evalE P cl ρ m2 h).toD.bind fun y h => (match x, y with
    | .int i, .int j => if -(2 ^ 62) ≤ i ∧ i < 2 ^ 62 ∧ -(2 ^ 62) ≤ j ∧ j < 2 ^ 62 then .ok (rangeD2 i j) h else .bad
    | _, _ => .bad : Out (List D)) else .bad) (RI G L S H R) := hp
  split at hp'
  · rename_i hf
    refine WI.of (pi_range2 (g.gl hg) (by rw [g.mg]; exact pf.free _ hf) (pa_cons peS (pa_cons peS pa_nil (star_cons (env := fun _ => X.env) hs2)) (star_cons (env := fun _ => X.env) hs)) (by rw [star_cons (env := fun _ => X.env) hs, star_cons (env := fun _ => X.env) hs2]; rfl) (by rw [star_cons (env := fun _ => X.env) hs2]; rfl)) ?_
    refine one_d ha ok en hp' fun x h1 v L1 S1 H1 st ok1 en1 r hp1 => ?_
    refine one_d hb ok1 en1 hp1 fun y h2 u L2 S2 H2 stt ok2 en2 r2 hp2 => ?_
    split at hp2
    · rename_i i j
      split at hp2
      · rename_i hn
        exact ⟨i, j, by rw [show v = .int i from r, show u = .int j from r2], hn, hp2 L2 S2 H2 _ (st.trans stt) ok2 yl_range2⟩
      · exact hp2.elim
    · exact hp2.elim
  · exact hp'.elim
theorem snd_wenum {elts : List Expr} {kk : Nat} {tpos : Pos} (g : Good G N sc k X) (pf : PF G P) (ha : SndE G P cl X E σ a m) (hs : notStar a = true) (hg : isGl sc "enumerate" = true) : SndI G P cl X E σ (.Tuple elts kk tpos) (.Call (.Name "enumerate" p) [a] [] pos) (.enum m) := fun ρ S L h H ok en R hp => by
  have hp' : Post G E L S H (if P.free "enumerate" = true then (evalE P cl ρ m h).toD.bind fun x h => (match x with
    | .lst xs => .ok (enumD 0 xs) h
    | _ => .bad : Out (List D)) else .bad) (RI G L S H R) := hp
  split at hp'
  · rename_i hf
    refine WI.of (pi_enum (g.gl hg) (by rw [g.mg]; exact pf.free _ hf) (pa_cons peS pa_nil (star_cons (env := fun _ => X.env) hs)) (by rw [star_cons (env := fun _ => X.env) hs]; rfl)) (one_d ha ok en hp' fun x h1 v L1 S1 H1 st ok1 en1 r hp1 => ?_)
    split at hp1
    · rename_i xs
      obtain ⟨a, ys, rfl, h2, rs⟩ := r
      exact ⟨a, ys, rfl, (by rw [g.K]; exact ext_sq ok1.sub h2), by rw [g.K]; exact hp1 L1 S1 H1 _ st ok1 (yl_enum h2 rs)⟩
    · exact hp1.elim
  · exact hp'.elim
end
end Pe
set_option maxHeartbeats 4000000
namespace Pe
open PySem PySem.Spec PyProof.Rows L2
section
variable {G : Gx} {P : Prog} {cl : Cl} {X : Cx} {E : XK} {σ : L2.St} {a b c e o tg iter elt : Expr} {ma m mel : M} {pos apos cpos p p2 : Pos} {N : List Str} {sc scope : Scope} {k : Nat}
/-! ### targets -/
def gOf (G : Gx) : Tg → TG
  | .name i => gName i
  | .tup [i, j] => gTup G.K 2 (gCons (gName i) (gCons (gName j) gNil))
  | .tup _ => fun _ _ _ _ => False
def tgIx : Tg → List Nat
  | .name i => [i]
  | .tup ts => ts
theorem pg_of {Y : Cx} {t : Tg} (hN : Y.N = N) (hK : Y.K = G.K) (nd : N.Nodup) (hc : Y.calm = true) (hloc : ∀ x ∈ tgNames tg, Loc Y.env.scope x ∧ (Y.fn x = true ∨ Y.env.scope.names.lookup x = some .local)) (h : trTg N tg = some t) : PG Y tg (gOf G t) := by
  unfold trTg at h
  split at h
  · rename_i x p0
    obtain ⟨i, hi, rfl⟩ := Option.map_eq_some_iff.mp h
    obtain ⟨l1, l2⟩ := hloc x (by simp [tgNames])
    exact pg_name (by rw [hN]; exact nd) (by rw [hN]; exact ixOf_ok hi) l1 l2
  · rename_i x p0 y p1 k0 p2
    split at h
    · rename_i i j hi hj
      cases h
      obtain ⟨l1, l2⟩ := hloc x (by simp [tgNames])
      obtain ⟨l3, l4⟩ := hloc y (by simp [tgNames])
      show PG Y _ (gTup G.K 2 (gCons (gName i) (gCons (gName j) gNil)))
      rw [← hK]
      exact pg_tup hc (pgs_cons (pg_name (by rw [hN]; exact nd) (by rw [hN]; exact ixOf_ok hi) l1 l2) (pgs_cons (pg_name (by rw [hN]; exact nd) (by rw [hN]; exact ixOf_ok hj) l3 l4) pgs_nil))
    · cases h
  · cases h
/-- what is known of the slots but vs -/
def EnvX (G : Gx) (S : Hp) (L : List Addr) (vs : List Nat) (ρ : Pe.Env) (σ : L2.St) : Prop := ρ.length = σ.length ∧ ∀ (i : Nat) w, i ∉ vs → ρ[i]? = some (some w) → ∃ v, σ[i]? = some (some v) ∧ WIs G S L w v
theorem EnvOk.x {S : Hp} {L : List Addr} {ρ : Pe.Env} {σ : L2.St} (h : EnvOk G S L ρ σ) (vs : List Nat) : EnvX G S L vs ρ σ := ⟨h.1, fun i w _ q => h.2 i w q⟩
theorem wipe_get {σ : L2.St} {i : Nat} : ∀ {vs : List Nat}, i ∉ vs → (wipe σ vs)[i]? = σ[i]?
  | [], _ => rfl
  | v :: vs, h => by
    have hv : v ≠ i := fun e => h (by rw [e]; exact List.mem_cons_self)
    show ((wipe σ vs).set v none)[i]? = _
    rw [List.getElem?_set_ne hv]
    exact wipe_get fun z => h (List.mem_cons_of_mem _ z)
theorem EnvX.wipe {S : Hp} {L : List Addr} {vs : List Nat} {ρ : Pe.Env} {σ : L2.St} (h : EnvX G S L vs ρ σ) : EnvX G S L vs ρ (wipe σ vs) := ⟨by rw [wipe_length]; exact h.1, fun i w hi q => by rw [wipe_get hi]; exact h.2 i w hi q⟩
theorem EnvX.mono {S S' : Hp} {L L' : List Addr} {vs : List Nat} {ρ : Pe.Env} {σ : L2.St} (h : EnvX G S L vs ρ σ) (e : Ext S S') (p : Pre L L') : EnvX G S' L' vs ρ σ := ⟨h.1, fun i w hi q => let ⟨v, a, b⟩ := h.2 i w hi q; ⟨v, a, b.mono e p⟩⟩
/-- one slot told -/
theorem EnvX.set {S : Hp} {L : List Addr} {vs : List Nat} {i : Nat} {ρ : Pe.Env} {σ : L2.St} {w : Pe.W} {v : V} (h : EnvX G S L (i :: vs) ρ σ) (r : WIs G S L w v) : EnvX G S L vs (ρ.set i (some w)) (σ.set i (some v)) := by
  refine ⟨by rw [List.length_set, List.length_set]; exact h.1, fun j u hj q => ?_⟩
  by_cases e : i = j
  · subst e
    have hl : i < ρ.length := by
      have := (List.getElem?_eq_some_iff.mp q).1
      rw [List.length_set] at this; exact this
    rw [List.getElem?_set_self hl] at q
    cases q
    exact ⟨v, by rw [List.getElem?_set_self (by rw [← h.1]; exact hl)], r⟩
  · rw [List.getElem?_set_ne e] at q ⊢
    exact h.2 j u (fun z => by rcases List.mem_cons.mp z with z | z; exact e z.symm; exact hj z) q
theorem EnvX.ok {S : Hp} {L : List Addr} {ρ : Pe.Env} {σ : L2.St} (h : EnvX G S L [] ρ σ) : EnvOk G S L ρ σ := ⟨h.1, fun i w q => h.2 i w (by simp) q⟩
theorem EnvX.sub {S : Hp} {L : List Addr} {vs us : List Nat} {ρ : Pe.Env} {σ : L2.St} (h : EnvX G S L vs ρ σ) (k : ∀ i ∈ vs, i ∈ us) : EnvX G S L us ρ σ := ⟨h.1, fun i w hi q => h.2 i w (fun z => hi (k i z)) q⟩
theorem wipe_set {σ : L2.St} {i : Nat} {x : Option V} : ∀ {vs : List Nat}, i ∈ vs → wipe (σ.set i x) vs = wipe σ vs
  | v :: vs, h => by
    unfold wipe
    by_cases e : i = v
    · subst e
      by_cases h2 : i ∈ vs
      · rw [wipe_set h2]
      · have : ∀ ws : List Nat, i ∉ ws → wipe (σ.set i x) ws = (wipe σ ws).set i x := by
          intro ws
          induction ws with
          | nil => intro _; rfl
          | cons w ws ih =>
            intro hw
            unfold wipe
            rw [ih (fun z => hw (List.mem_cons_of_mem _ z)), List.set_comm _ _ (fun z => hw (by rw [z]; exact List.mem_cons_self))]
        rw [this vs h2, List.set_set]
    · rcases List.mem_cons.mp h with z | z
      · exact absurd z e
      · rw [wipe_set z]
theorem wipe_wipe {σ : L2.St} : ∀ {vs ws : List Nat}, (∀ v ∈ ws, v ∈ vs) → wipe (wipe σ ws) vs = wipe σ vs
  | vs, [], _ => rfl
  | vs, w :: ws, h => by
    show wipe ((wipe σ ws).set w none) vs = _
    rw [wipe_set (h w List.mem_cons_self)]
    exact wipe_wipe fun v hv => h v (List.mem_cons_of_mem _ hv)
theorem wipe_set' {σ : L2.St} {vs : List Nat} {i : Nat} {a : Option V} (h : i ∈ vs) : wipe (σ.set i a) vs = wipe σ vs := wipe_set h
theorem g_of {t : Tg} {S H : Hp} {L : List Addr} {h : Cells} {ρ ρ' : Pe.Env} {σ : L2.St} {x : D} {v : V} {Q : L2.St → Hp → Prop} (ok : Ok G S L h H) (en : EnvX G S L (tgIx t) ρ σ) (r : Rp G S x v) (hb : bindT t x ρ = some ρ')
    (k : ∀ σ', EnvOk G S L ρ' σ' → (∀ vs, (∀ i ∈ tgIx t, i ∈ vs) → wipe σ' vs = wipe σ vs) → Q σ' H) : gOf G t v σ H Q := by
  cases t with
  | name i =>
    have hb' : some (ρ.set i (some (.d x))) = some ρ' := by cases x <;> exact hb
    cases hb'
    exact k _ (EnvX.set (w := .d x) en r).ok fun vs hv => wipe_set' (hv i (by simp [tgIx]))
  | tup ts =>
    unfold bindT at hb
    split at hb
    · rename_i e; cases e
    · rename_i i j y z e
      cases e
      cases hb
      obtain ⟨a, ys, rfl, ht, y1, q1, rfl, r1, z1, q2, rfl, r2, r3⟩ := r
      have r3 : q2 = [] := r3
      subst r3
      refine ⟨a, [y1, z1], rfl, TupA.sq (ht.imp (ok.sub _ _) fun z => z), rfl, y1, [z1], rfl, z1, [], rfl, rfl, ?_⟩
      have e1 := EnvX.set (w := .d y) (i := i) (vs := [j]) en r1
      have e2 := EnvX.set (w := .d z) (i := j) (vs := []) e1 r2
      exact k _ e2.ok fun vs hv => by rw [wipe_set' (hv j (by simp [tgIx])), wipe_set' (hv i (by simp [tgIx]))]
    · cases hb
/-! ### list comprehensions -/
def Okp {α : Type} (o : Out α) (R : α → Cells → Prop) : Prop := match o with
  | .ok a h => R a h
  | _ => False
theorem Okp.bind {α β : Type} {o : Out α} {f : α → Cells → Out β} {R : β → Cells → Prop} (h : Okp (o.bind f) R) : Okp o fun a h' => Okp (f a h') R := by
  cases o with
  | ok a h' => exact h
  | exc x h' => exact h
  | bad => exact h
theorem Okp.post {α : Type} {L : List Addr} {S H : Hp} {o : Out α} {R : α → Cells → Prop} (h : Okp o R) : Post G E L S H o R := by
  cases o with
  | ok a h' => exact h
  | exc x h' => exact h.elim
  | bad => exact h
theorem Okp.imp {α : Type} {o : Out α} {R R' : α → Cells → Prop} (h : Okp o R) (k : ∀ a h, R a h → R' a h) : Okp o R' := by
  cases o with
  | ok a h' => exact k a h' h
  | exc x h' => exact h
  | bad => exact h
theorem calm_ok {α β : Type} {L : List Addr} {S H : Hp} {o : Out α} {f : α → Cells → Out β} {R : β → Cells → Prop} (h : Post G E L S H (o.calm.bind f) R) : Okp o fun a h' => Post G E L S H (f a h') R := by
  cases o with
  | ok a h' => exact h
  | exc x h' => exact h
  | bad => exact h
def testM (P : Prog) (cl : Cl) (cs : Option M) (ρ : Pe.Env) (h : Cells) : Out Bool := match cs with
  | some c => (evalE P cl ρ c h).toB
  | none => .ok true h
def elM (P : Prog) (cl : Cl) (t : Tg) (mel : M) (cs : Option M) (ρ : Pe.Env) (x : D) (h : Cells) : Out (Option D) := match bindT t x ρ with
  | some ρ' => match cs with
    | some c => (evalE P cl ρ' c h).toB.bind fun b h => if b then (evalE P cl ρ' mel h).toD.bind fun y h => .ok (some y) h else .ok none h
    | none => (evalE P cl ρ' mel h).toD.bind fun y h => .ok (some y) h
  | none => .bad
theorem elM_ok {t : Tg} {cs : Option M} {ρ : Pe.Env} {x : D} {h : Cells} {R : Option D → Cells → Prop} (hh : Okp (elM P cl t mel cs ρ x h) R) : ∃ ρ', bindT t x ρ = some ρ' ∧ Okp (testM P cl cs ρ' h) fun b h => if b = true then Okp (evalE P cl ρ' mel h).toD fun y h => R (some y) h else R none h := by
  unfold elM at hh
  split at hh
  · rename_i ρ' e
    refine ⟨ρ', e, ?_⟩
    split at hh
    · refine hh.bind.imp fun b h r => ?_
      split
      · rw [if_pos (by assumption)] at r; exact r.bind
      · rw [if_neg (by assumption)] at r; exact r
    · show Okp _ _
      exact hh.bind
  · exact hh.elim
abbrev Blk (X : Cx) (scope : Scope) (Pr : Cx → Prop) : Prop := ∀ (s : Shared) (H : Hp) (C : Addr) (cl : List (Str × Addr)) (fp : List Addr), Pr (X.blk s H scope (compEnvC scope cl C X.env) fp)
/-- the tests of a comprehension -/
def SndC (G : Gx) (P : Prog) (cl : Cl) (X : Cx) (scope : Scope) : List Expr → Option M → Prop
  | [], m => m = none
  | [c], m => ∃ q, m = some q ∧ Blk X scope fun Y => ∀ σ, SndT G P cl Y (fun _ _ _ => False) σ c q
  | _, _ => False
def ttOf (X : Cx) (scope : Scope) : List Expr → TT
  | [c] => fun σ H Q => ∀ (s : Shared) (H0 : Hp) (C : Addr) (cl : List (Str × Addr)) (fp : List Addr), WT (X.blk s H0 scope (compEnvC scope cl C X.env) fp) c σ H Q
  | _ => tYes
def teOf (X : Cx) (scope : Scope) (e : Expr) : TE := fun σ H Q => ∀ (s : Shared) (H0 : Hp) (C : Addr) (cl : List (Str × Addr)) (fp : List Addr), WE (X.blk s H0 scope (compEnvC scope cl C X.env) fp) e σ H Q
theorem pe_teOf : Blk X scope fun Y => PE Y e (teOf X scope e) := fun s H0 C cl fp => ⟨fun pins s' σ H Q I h => h s H0 C cl fp pins s' I⟩
theorem pts_ttOf {ifs : List Expr} {cs : Option M} (h : SndC G P cl X scope ifs cs) : Blk X scope fun Y => PTs Y ifs (ttOf X scope ifs) := fun s H0 C cl' fp => by
  cases ifs with
  | nil => exact pts_nil
  | cons c r =>
    cases r with
    | nil => exact pts_one ⟨fun pins s' σ H Q I h => h s H0 C cl' fp pins s' I⟩
    | cons c' r => exact h.elim
theorem test_ok {ifs : List Expr} {cs : Option M} (hc : SndC G P cl X scope ifs cs) {ρ : Pe.Env} {σ : L2.St} {S H : Hp} {L : List Addr} {h : Cells} {R : Bool → Cells → Prop} {Q : Bool → Hp → Prop} (ok : Ok G S L h H) (en : EnvOk G S L ρ σ) (hh : Okp (testM P cl cs ρ h) R)
    (k : ∀ b h' L' S' H', Step L S H L' S' H' → Ok G S' L' h' H' → R b h' → Q b H') : ttOf X scope ifs σ H Q := by
  cases ifs with
  | nil =>
    have e : cs = none := hc
    subst e
    exact k true h L S H Step.refl ok hh
  | cons c r =>
    cases r with
    | nil =>
      obtain ⟨q, rfl, hq⟩ := hc
      exact fun s H0 C cl' fp => hq s H0 C cl' fp _ ρ S L h H ok en Q (Okp.post (hh.imp fun b h' r L' S' H' st ok' => k b h' L' S' H' st ok' r))
    | cons c' r => exact hc.elim
theorem el_ok (hq : Blk X scope fun Y => ∀ σ, SndE G P cl Y (fun _ _ _ => False) σ elt mel) {ρ : Pe.Env} {σ : L2.St} {S H : Hp} {L : List Addr} {h : Cells} {R : D → Cells → Prop} {Q : VK} (ok : Ok G S L h H) (en : EnvOk G S L ρ σ) (hh : Okp (evalE P cl ρ mel h).toD R)
    (k : ∀ y h' L' S' H' v, Step L S H L' S' H' → Ok G S' L' h' H' → Rp G S' y v → R y h' → Q v H') : teOf X scope elt σ H Q := fun s H0 C cl' fp =>
  (hq s H0 C cl' fp _ ρ S L h H ok en).toD (Okp.post (hh.imp fun b h' r L' S' H' v st ok' rv => k b h' L' S' H' v st ok' rv r))
theorem fold_of {e : Expr} (h : ∀ es k p, e ≠ .Set es k p) (env : PySem.Env) (x : Value) : foldedSetIterable e env x = pure x := by
  unfold foldedSetIterable
  split
  · rename_i es k p; exact absurd rfl (h es k p)
  · rfl
theorem own_apart {L L' : List Addr} {S H S' H' : Hp} (st : Step L S H L' S' H') (ok' : Ok G S' L' h' H') {Dd : Addr} {o : HO} (hl : Dd ∉ L) (hs : S Dd = none) (hh : H Dd = some o) (m : ∀ xs, o ≠ .tup xs) : S' Dd = none ∧ Dd ∉ L' ∧ H' Dd = some o := st.out ok'.sub hl hs hh m
/-- an object that stands apart is changed -/
theorem Ok.own {S H : Hp} {L : List Addr} {h : Cells} (ok : Ok G S L h H) {Dd : Addr} {o : HO} (hl : Dd ∉ L) (hs : S Dd = none) : Ok G S L h (upd H Dd o) := by
  refine ⟨fun b u e => ?_, ok.len, ok.nd, ok.out, ok.lim, fun n a c e1 e2 => ?_⟩
  · rw [upd_ne (ne_of_none e hs)]; exact ok.sub b u e
  · refine (ok.cell n a c e1 e2).to (Ext.refl S) (fun _ _ z => z) fun u q => ?_
    rw [upd_ne (fun z => hl (by rw [← z]; exact List.mem_of_getElem? e1))]; exact q
theorem Step.own {L L' : List Addr} {S H S' H' : Hp} (st : Step L S H L' S' H') {Dd : Addr} {o u : HO} (h0 : H Dd = none) (hu : H' Dd = some u) (mu : Mut (some u)) : Step L S H L' S' (upd H' Dd o) := by
  refine ⟨st.l, st.s, fun x w hx q => ?_, st.f, fun x b w q => ?_, fun x q => ?_⟩
  · rw [upd_ne (ne_of_none q h0)]; exact st.k x w hx q
  · rw [upd_ne (ne_of_none q h0)]; exact st.z x b w q
  · by_cases e : x = Dd
    · subst e; rw [upd_same]; simp
    · rw [upd_ne e]; exact st.t x q
theorem evalE_lc {t : Tg} {w : Wk} {cs : Option M} {ρ : Pe.Env} {h : Cells} : evalE P cl ρ (.lc mel t w cs) h = (evalI P cl ρ w h).bind fun xs h => (lcGo (elM P cl t mel cs ρ) xs [] h).calm.bind fun ys h => .ok (.new (.lst ys)) h := by
  have e : ∀ f g : List D → Cells → Out Val, f = g → (evalI P cl ρ w h).bind f = (evalI P cl ρ w h).bind g := fun f g e => by rw [e]
  have e2 : ∀ (f g : D → Cells → Out (Option D)) (xs : List D) (h : Cells), f = g → ((lcGo f xs [] h).calm.bind fun ys h => (.ok (.new (.lst ys)) h : Out Val)) = (lcGo g xs [] h).calm.bind fun ys h => .ok (.new (.lst ys)) h := fun f g xs h e => by rw [e]
  cases cs with
  | none =>
    rw [evalE]
    refine e _ _ (funext fun xs => funext fun h => e2 _ _ xs h (funext fun x => funext fun h => ?_))
    unfold elM
    cases bindT t x ρ <;> rfl
  | some c =>
    rw [evalE]
    refine e _ _ (funext fun xs => funext fun h => e2 _ _ xs h (funext fun x => funext fun h => ?_))
    unfold elM
    cases bindT t x ρ <;> rfl
theorem lc_rd {t : Tg} {w : Wk} {cs : Option M} {ifs : List Expr} {vs0 : List Nat} (hi : SndI G P cl X E σ tg iter w) (hvs : vs0 = tgIx t)
    (hq : Blk X scope fun Y => ∀ σ, SndE G P cl Y (fun _ _ _ => False) σ elt mel) (hc : SndC G P cl X scope ifs cs) {ρ : Pe.Env} {S H : Hp} {L : List Addr} {h : Cells} {Q : VK} (ok0 : Ok G S L h H) (en : EnvOk G S L ρ σ) (hp : Post G E L S H (evalE P cl ρ (.lc mel t w cs) h) (RV G L S H Q)) :
    tLc (WI X tg iter) (gOf G t) (ttOf X scope ifs) (teOf X scope elt) vs0 σ H Q := by
  subst hvs
  have hp' : Post G E L S H ((evalI P cl ρ w h).bind fun xs h => (lcGo (elM P cl t mel cs ρ) xs [] h).calm.bind fun ys h => .ok (.new (.lst ys)) h) (RV G L S H Q) := by rw [← evalE_lc]; exact hp
  refine hi ρ S L h H ok0 en _ (hp'.bind.imp fun xs h1 q L1 S1 H1 J st1 ok1 yl Dd hD => ?_)
  have q1 := calm_ok q
  -- what stands at the turn i
  let Inv0 : Nat → Hp → Prop := fun i H' => ∃ S' L' h' acc vs, Step L1 S1 H1 L' S' H' ∧ Ok G S' L' h' H' ∧ S' Dd = none ∧ Dd ∉ L' ∧ H' Dd = some (.lst vs) ∧ Rps G S' acc vs ∧ Okp (lcGo (elM P cl t mel cs ρ) (xs.drop i) acc h') fun ys h => RV G L S H Q (.new (.lst ys)) h
  refine ⟨fun i m H' => m = xs.length - i ∧ i ≤ xs.length ∧ Inv0 i H', ⟨xs.length, rfl, Nat.zero_le _, S1, L1, h1, [], [], Step.apart hD, ok1.apart hD, (ok1.free hD).1, (ok1.free hD).2, upd_same, rfl, q1⟩, ?_⟩
  rintro i m H' ⟨rfl, hle, S', L', h', acc, vs, st', ok', hs', hl', hh', rs, hg⟩
  obtain ⟨yl1, yl2⟩ := yl i S' L' h' H' st'.s ok'
  by_cases hlt : i < xs.length
  · have hx : xs[i]? = some xs[i] := List.getElem?_eq_getElem hlt
    obtain ⟨go, yd⟩ := yl1 _ hx
    refine .inr ⟨go, Inv0 (i + 1), fun H2 p => ⟨xs.length - (i + 1), by omega, rfl, hlt, p⟩, fun v H2 hy => ?_⟩
    obtain ⟨S2, st2, ok2, rv⟩ := yd v H2 hy
    obtain ⟨hs2, hl2, hh2⟩ := st2.out ok2.sub hl' hs' hh' (fun _ z => nomatch z)
    have hdrop : xs.drop i = xs[i] :: xs.drop (i + 1) := List.drop_eq_getElem_cons hlt
    rw [hdrop] at hg
    have hg2 : Okp ((elM P cl t mel cs ρ xs[i] h').bind fun y h => match y with
      | some y => if acc.length < sizeLine then lcGo (elM P cl t mel cs ρ) (xs.drop (i + 1)) (acc ++ [y]) h else .bad
      | none => lcGo (elM P cl t mel cs ρ) (xs.drop (i + 1)) acc h) _ := hg
    obtain ⟨ρ', hb, hg3⟩ := elM_ok hg2.bind
    have en2 : EnvX G S2 L' (tgIx t) ρ (wipe σ (tgIx t)) := ((en.x (tgIx t)).mono ((st1.s.trans st'.s).trans st2.s) (fun n a z => (st1.trans st').pre n a z)).wipe
    refine g_of ok2 en2 rv hb fun σ2 en3 hw => ⟨by rw [hw _ fun _ z => z]; exact wipe_wipe fun v hv => hv, ?_⟩
    refine test_ok hc ok2 en3 hg3 fun b h3 L3 S3 H3 st3 ok3 hr => ?_
    obtain ⟨hs3, hl3, hh3⟩ := st3.out ok3.sub hl2 hs2 hh2 (fun _ z => nomatch z)
    have st03 := (st'.trans st2).trans st3
    split
    · rw [if_pos (by assumption)] at hr
      refine el_ok hq ok3 (en3.step st3) hr fun y h4 L4 S4 H4 u st4 ok4 ru hr2 => ?_
      obtain ⟨hs4, hl4, hh4⟩ := st4.out ok4.sub hl3 hs3 hh3 (fun _ z => nomatch z)
      have hr3 : Okp (if acc.length < sizeLine then lcGo (elM P cl t mel cs ρ) (xs.drop (i + 1)) (acc ++ [y]) h4 else .bad) _ := hr2
      split at hr3
      · rename_i hz
        refine ⟨vs, hh4, by rw [rs.len]; exact hz, S4, L4, h4, acc ++ [y], vs ++ [u], (st03.trans st4).own hD hh4 trivial, ok4.own hl4 hs4, hs4, hl4, upd_same, ?_, hr3⟩
        exact (Rps.ext ((st2.s.trans st3.s).trans st4.s) _ _ rs).snoc ru
      · exact hr3.elim
    · rw [if_neg (by assumption)] at hr
      exact ⟨S3, L3, h3, acc, vs, st03, ok3, hs3, hl3, hh3, Rps.ext (st2.s.trans st3.s) _ _ rs, hr⟩
  · have ei : i = xs.length := by omega
    subst ei
    refine .inl ⟨yl2 (Nat.le_refl _), ?_⟩
    rw [List.drop_length] at hg
    have hg2 : RV G L S H Q (.new (.lst acc)) h' := hg
    exact hg2 L' S' H' _ (st1.trans st') ok' ⟨Dd, _, rfl, st1.non hD, hs', hl', hh', ⟨vs, rfl, rs⟩, rfl⟩
theorem snd_lc {t : Tg} {w : Wk} {cs : Option M} {ifs : List Expr} {own : List (Str × Nat)} (g : Good G N sc k X) (hi : SndI G P cl X E σ tg iter w) (ok : BlkOk X.N X.env.scope scope own) (hvs : own.map (·.2) = tgIx t) (hpg : Blk X scope fun Y => PG Y tg (gOf G t))
    (hq : Blk X scope fun Y => ∀ σ, SndE G P cl Y (fun _ _ _ => False) σ elt mel) (hc : SndC G P cl X scope ifs cs) (hs : ∀ es k p, iter ≠ .Set es k p) : SndE G P cl X E σ (.ListComp elt [⟨tg, iter, ifs, 0⟩] scope pos) (.lc mel t w cs) := fun ρ S L h H ok0 en Q hp =>
  WE.of (pe_lc g.calm (by rw [g.hN]; exact g.nd) piS ok hpg (pts_ttOf hc) pe_teOf (fold_of hs _)) (lc_rd hi hvs hq hc ok0 en hp)
end
end Pe
set_option maxHeartbeats 4000000
namespace Pe
open PySem PySem.Spec PyProof.Rows L2
/-! ### dict comprehensions -/
section
variable {X : Cx} {pins : List (Addr × Obj)} {σ : L2.St} {H : Hp} {s : Shared} {A : Around} {a : Addr} {l : List DE}
/-- the store of such a comprehension -/
theorem dset_dic {E : Value → Shared → Prop} {key v : Value} {kv vv : V} {k : NestedKey} {Q : Unit → Shared → Prop} (hu : A.units + 9 < cLine) (I : Inv X pins σ H s) (e : H a = some (dicO X.w a l)) (d : DicW X.K H l) (hk : KIs X.K H k kv) (d8 : k.depth ≤ 8) (few : l.length < sizeLine) (ry : L2.RelV kv key) (rv : L2.RelV vv v)
    (h : ∀ s', Inv X pins σ (upd H a (dicO X.w a (lput l k kv vv))) s' → Q () s') : wpAny (model X.prog X.w) A (dictSet a key v) Q E s := by
  obtain ⟨p1, p2, es, ep, m, r⟩ := dic_rd I (.inl e)
  have en := dic_ents I d r
  have hz : es.size ≤ sizeLine := by rw [en.len, List.length_map]; exact p2
  have hl : (lput l k kv vv).length ≤ sizeLine := by have := lput_len l k kv vv; omega
  refine dictSet_key (by omega) (KIs.ok I _ _ _ hk ry) d8 m en hz (fun no h' ep' m' sb => h _ (dic_write (s := tk s k) (t' := s.toks + k.draws) (I.tok _) e sb ⟨p1, hl, _, ep', m', ?_⟩)) fun j hj h' ep' m' sb => h _ (dic_write (s := tk s k) (t' := s.toks + k.draws) (I.tok _) e sb ⟨p1, hl, _, ep', m', pair_put (key := key) d.nd r hj rv⟩)
  have n : k ∉ l.map (·.1) := fun z => by
    obtain ⟨j, hj⟩ := List.mem_iff_getElem?.mp z
    exact no j hj
  unfold lput
  rw [if_neg n, Array.toList_push]
  exact pair_app r (.cons ⟨rfl, ry, rv⟩ .nil)
end
/-- {k: v for target in iter if ..}, keys tuples: D is the new dict, W the invariant by turn and measure -/
def tDc (w : World) (K : PySem.W.Frag) (wi : TI) (g : TG) (tt : TT) (tk tv : TE) (vs : List Nat) : TE := fun σ H Q => wi σ H fun J H1 => ∀ D, H1 D = none → ∃ W : Nat → Nat → Hp → Prop, (∃ m, W 0 m (upd H1 D (dicO w D []))) ∧
  ∀ i m G, W i m G → (J.stop i G ∧ Q (.ref D) G) ∨ (J.go i G ∧ ∃ Nx : Hp → Prop, (∀ G', Nx G' → ∃ m', m' < m ∧ W (i + 1) m' G') ∧
    ∀ x G', J.yld i G x G' → g x (wipe σ vs) G' fun σ2 G2 => wipe σ2 vs = wipe σ vs ∧ tt σ2 G2 fun ok G3 => if ok = true then tk σ2 G3 fun y G4 => tv σ2 G4 fun z G5 =>
      ∃ (l : List DE) (k : NestedKey), KIs K G5 k y ∧ k.depth ≤ 8 ∧ G5 D = some (dicO w D l) ∧ DicW K G5 l ∧ l.length < sizeLine ∧ Nx (upd G5 D (dicO w D (lput l k y z))) else Nx G3)
section
variable {X : Cx}
theorem dc_core {kx vx tg iter : Expr} {ifs : List Expr} {scope : Scope} {own : List (Str × Nat)} {pos pos' : Pos} {wi : TI} {g : TG} {tt : TT} {tk tv : TE} {pins : List (Addr × Obj)} {s : Shared} {σ : L2.St} {H : Hp} {Q : VK} {use : Option (Value → Sem Unit)} {Qf : Value → Shared → Prop}
    (hu : X.A.units + 9 < cLine) (hc : X.calm = true) (nd : X.N.Nodup) (I : Inv X pins σ H s) (hi : PI X tg iter wi) (ok : BlkOk X.N X.env.scope scope own)
    (hg : Blk X scope fun Y => PG Y tg g) (ht : Blk X scope fun Y => PTs Y ifs tt) (hk : Blk X scope fun Y => PE Y kx tk) (hv : Blk X scope fun Y => PE Y vx tv) (hs : ∀ x, foldedSetIterable iter X.env x = pure x)
    (asked : tDc X.w X.K wi g tt tk tv (own.map (·.2)) σ H Q)
    (hRR : ∀ D C s' m H', Inv X pins σ H' s' → Q (.ref D) H' → s'.heap.Ns C m → FpOk X pins H' C → compPost (model X.prog X.w) X.A X.xe use Qf (.ref D) C (.ok .next) s') :
    wpAny (model X.prog X.w) X.A (comprehension (.DictComp kx vx [⟨tg, iter, ifs, 0⟩] scope pos) scope X.env pos' newDict false (eval iter X.env) use) Qf X.xe s := by
  have caught : ∀ y ∈ scope.names, y.2 = .free → ∃ c, X.env.cells.lookup y.1 = some c := fun y hy e => I.ok.has _ (ok.free y hy e)
  refine wpAny_comprehension_free (use := use) rfl hs (closure_ok caught) ok.kind (fun y hy e => (ok.uniq y hy).trans (by rw [e])) ?_
  refine thn (hi.run pins s σ H _ I asked) fun _ s1 began => thn began fun itv s2 there => ?_
  obtain ⟨it, fp, tn, J, H2, rfl, I2, T, st2, f2, wish⟩ := there
  refine wpAny_newObj_type (newEnv_comp ?_)
  -- the new dict's place, the state with it
  obtain ⟨D, hD⟩ : ∃ D, s2.heap.objs.size = D := ⟨_, rfl⟩
  have dNew : H2 D = none := I2.hok.fresh (Nat.le_of_eq hD)
  obtain ⟨W, ⟨m0, w0⟩, turn⟩ := wish D dNew
  obtain ⟨s3, hs3⟩ : ∃ s3 : Shared, { s2 with heap := s2.heap.push { cls := .type "dict", data := .dict #[] } } = s3 := ⟨_, rfl⟩
  obtain ⟨H3, hH3⟩ : ∃ H3, upd H2 D (dicO X.w D []) = H3 := ⟨_, rfl⟩
  have heap3 : s3.heap = s2.heap.push { cls := .type "dict", data := .dict #[] } := by rw [← hs3]
  have I3 : Inv X pins σ H3 s3 := by
    rw [← hs3, ← hH3]
    refine I2.laid (t' := s2.toks) (fun b o e => Heap.get?_push_of_some _ e) (Nat.le_of_eq hD) ?_
    rw [← hD]
    exact dicO_ok (dic_new s2.heap I2.big)
  have below : ∀ b ∈ fp, b < s2.heap.objs.size := fun b hb => let ⟨_, e, _⟩ := T.obj _ _ st2 b hb; Heap.lt_size e
  have walk3 : ∀ b ∈ fp, FpOk X pins H3 b ∧ b < s3.heap.objs.size := fun b hb => by
    refine ⟨⟨?_, (f2 b hb).2⟩, by rw [heap3, Heap.size_push]; exact Nat.lt_succ_of_lt (below b hb)⟩
    rw [← hH3, upd_ne (Nat.ne_of_lt (Nat.lt_of_lt_of_le (below b hb) (Nat.le_of_eq hD)))]
    exact (f2 b hb).1
  have I4 := block_start I3 ok nd walk3
  -- the block's own environment
  obtain ⟨cl, hcl⟩ : ∃ cl, cellsFrom (s3.heap.objs.size + 1) scope.names (cloFrom X.env.cells scope.names []) = cl := ⟨_, rfl⟩
  rw [hD] at *
  rw [hs3]
  rw [hcl] at I4
  rw [hcl]
  have bg := hg s3 H3 s3.heap.objs.size cl fp
  have bt := ht s3 H3 s3.heap.objs.size cl fp
  have bk := hk s3 H3 s3.heap.objs.size cl fp
  have bv := hv s3 H3 s3.heap.objs.size cl fp
  show codeAny _ _ (.compStart (.DictComp kx vx [⟨tg, iter, ifs, 0⟩] scope pos) 0 (.ref it) (.ref D) (compEnvC scope cl s3.heap.objs.size X.env)) (compPost (model X.prog X.w) X.A X.xe use Qf (.ref D) s3.heap.objs.size) { s3 with heap := pushCells (s3.heap.push { cls := .type "dict", data := .dict #[] }) scope.names }
  obtain ⟨ce, hce⟩ : ∃ ce, compEnvC scope cl s3.heap.objs.size X.env = ce := ⟨_, rfl⟩
  have ceAt : ce.locals = s3.heap.objs.size := by rw [← hce]; rfl
  rw [hce] at I4 bg bt bk bv
  rw [hce]
  obtain ⟨s4, hs4⟩ : ∃ s4 : Shared, { s3 with heap := pushCells (s3.heap.push { cls := .type "dict", data := .dict #[] }) scope.names } = s4 := ⟨_, rfl⟩
  rw [hs4] at I4
  rw [hs4]
  have st3 : tn 0 s3.heap := T.keep _ _ _ st2 fun b _ o e => by rw [heap3]; exact Heap.get?_push_of_some _ e
  have st4 : tn 0 s4.heap := T.keep _ _ _ st3 fun b _ o e => by rw [← hs4]; exact pushCells_keeps _ _ _ _ (Heap.get?_push_of_some _ e)
  let Y : Cx := X.blk s3 H3 scope ce fp
  have steady : ∀ {σ' : L2.St} {G : Hp} {t : Shared}, Inv Y [] σ' G t → (∀ b ∈ fp, G b = none) → ∀ b ∈ fp, FpOk Y [] G b := fun {σ' G t} I' n b hb =>
    ⟨n b hb, (I'.ok.exf b hb).1, I'.ok.exfs b hb, .inl hb, (I'.ok.exf b hb).2, fun p hp => by simp [Y] at hp⟩
  have loop : codeAny (model X.prog X.w) X.A (.compLoop (.DictComp kx vx [⟨tg, iter, ifs, 0⟩] scope pos) 0 (.ref it) (.ref D) ce) (compPost (model X.prog X.w) X.A X.xe use Qf (.ref D) s3.heap.objs.size) s4 := by
    refine compLoop_anyD (fun n t => ∃ i G, Inv Y [] (wipe σ (own.map (·.2))) G t ∧ tn i t.heap ∧ (∀ b ∈ fp, G b = none) ∧ W i n G) ?_ m0 ⟨0, H3, I4, st4, fun b hb => (walk3 b hb).1.1, hH3 ▸ w0⟩
    rintro n t ⟨i, G, It, stt, nt, wt⟩
    rcases turn i n G wt with ⟨stop, qq⟩ | ⟨go, Nx, later, step⟩
    · refine thnF (T.done Y rfl rfl rfl hc i [] t _ G (fun _ _ => False) It (steady It nt) stt stop) fun r t2 ⟨hr, It2⟩ => ?_
      subst hr
      have back : Inv X pins σ G t2 := I3.call' (ch := fp) It2.os It2.base It2.hok It2.bare fun b hb =>
        have z := (walk3 b hb).1
        ⟨z.2.2.2.1, z.2.1, z.2.2.2.2.1, z.2.2.2.2.2⟩
      have frameFree : G s3.heap.objs.size = none := ceAt ▸ It2.free
      obtain ⟨mm, hn, _⟩ := It2.loc
      have hn' : t2.heap.Ns s3.heap.objs.size mm := ceAt ▸ hn
      exact hRR D s3.heap.objs.size t2 mm G back qq hn' (I3.fpOk (Nat.le_refl _) frameFree)
    · refine thnF (T.item Y rfl rfl rfl hc i [] t _ G (fun _ _ => False) It (steady It nt) stt go) fun r t2 ⟨u, hr, h2⟩ => ?_
      subst hr
      refine thnF h2 fun _ t3 ⟨x, G3, It3, r3, y3, st3', n3⟩ => ?_
      have pinned := It3.pinned (steady It3 n3) (T.obj _ _ st3')
      refine thnF (bg.run _ t3 _ G3 x u _ pinned r3 (step x G3 y3)) fun _ t4 ⟨σ4, G4, It4, same, q4⟩ => ?_
      refine thnF (bt.run _ t4 σ4 G4 _ It4 q4) fun yes t5 ⟨G5, It5, q5⟩ => ?_
      have again : ∀ {t' : Shared} {G' : Hp}, Inv Y ([] ++ pinsAt fp t3.heap) σ4 G' t' → Nx G' → ∃ m, m < n ∧ ∃ i G', Inv Y [] (wipe σ (own.map (·.2))) G' t' ∧ tn i t'.heap ∧ (∀ b ∈ fp, G' b = none) ∧ W i m G' := fun {t' G'} I' nx => by
        obtain ⟨m', lt, w'⟩ := later G' nx
        have stays : ∀ b ∈ fp, ∀ o, t3.heap.get? b = some o → t'.heap.get? b = some o ∧ G' b = none := fun b hb o e =>
          have z := I'.pin (b, o) (List.mem_append_right _ (List.mem_append_right _ (mem_pinsAt hb e)))
          ⟨z.1, z.2.1⟩
        refine ⟨m', lt, i + 1, G', (I'.unpinned (pins := [])).weak (by rw [← same, wipe_length]) (fun j v e => (wipe_some (by rw [same]; exact e)).1), T.keep _ _ _ st3' fun b hb o e => (stays b hb o e).1, fun b hb => ?_, w'⟩
        obtain ⟨o, e, _⟩ := T.obj _ _ st3' b hb
        exact (stays b hb o e).2
      cases yes with
      | false => exact again It5 (by simpa using q5)
      | true =>
        have q5' := q5
        simp only [if_true] at q5'
        show wpAny _ _ _ _ _ _
        refine thnF (bk.run _ t5 σ4 G5 _ It5 q5') fun ku t6 ⟨yk, G6, It6, r6, q6⟩ => ?_
        refine thnF (bv.run _ t6 σ4 G6 _ It6 q6) fun vu t7 ⟨yv, G7, It7, r7, l, k, hk, d8, hD7, dw, few, nx⟩ => ?_
        exact dset_dic (X := Y) hu It7 hD7 dw hk d8 few r6 r7 fun t8 It8 => again It8 nx
  exact codeAny_compStart_dict loop (T.self X.A 0 _ _ _ st4 loop)
theorem pe_dc {kx vx tg iter : Expr} {ifs : List Expr} {scope : Scope} {own : List (Str × Nat)} {pos : Pos} {wi : TI} {g : TG} {tt : TT} {tk tv : TE} (hu : X.A.units + 9 < cLine) (hc : X.calm = true) (nd : X.N.Nodup) (hi : PI X tg iter wi) (ok : BlkOk X.N X.env.scope scope own)
    (hg : Blk X scope fun Y => PG Y tg g) (ht : Blk X scope fun Y => PTs Y ifs tt) (hk : Blk X scope fun Y => PE Y kx tk) (hv : Blk X scope fun Y => PE Y vx tv) (hs : ∀ x, foldedSetIterable iter X.env x = pure x) :
    PE X (.DictComp kx vx [⟨tg, iter, ifs, 0⟩] scope pos) (tDc X.w X.K wi g tt tk tv (own.map (·.2))) := by
  refine ⟨fun pins s σ H Q I asked => ?_⟩
  rw [arm_eval_DictComp]
  refine dc_core hu hc nd I hi ok hg ht hk hv hs asked fun D C s' m H' I' q hn f => ⟨m, hn, fun h'' sb => ?_⟩
  obtain ⟨f0, f1, f2, f3, f4, f5⟩ := f
  exact ⟨.ref D, H', I'.turned (t' := s'.toks) (fun b o hb e => (sb.2 b hb).trans e) f0 f1 f3 f4 f5, rfl, q⟩
theorem ps_setDc {i : Nat} {y : Str} {py : Pos} {kx vx tg iter : Expr} {ifs : List Expr} {scope : Scope} {own : List (Str × Nat)} {pos spos : Pos} {wi : TI} {g : TG} {tt : TT} {tk tv : TE} (hu : X.A.units + 9 < cLine) (hc : X.calm = true) (hN : X.N.Nodup) (hy : X.N[i]? = some y) (hyl : X.env.scope.names.lookup y = some .local)
    (hsw : swapsWith (.DictComp kx vx [⟨tg, iter, ifs, 0⟩] scope pos) (some (.Name y py)) spos.line X.env = pure true) (hi : PI X tg iter wi) (ok : BlkOk X.N X.env.scope scope own)
    (hg : Blk X scope fun Y => PG Y tg g) (ht : Blk X scope fun Y => PTs Y ifs tt) (hk : Blk X scope fun Y => PE Y kx tk) (hv : Blk X scope fun Y => PE Y vx tv) (hs : ∀ x, foldedSetIterable iter X.env x = pure x) :
    PS X (.Assign [.Name y py] (.DictComp kx vx [⟨tg, iter, ifs, 0⟩] scope pos) spos) (tAsg (tDc X.w X.K wi g tt tk tv (own.map (·.2))) (gName i)) := by
  refine ⟨fun pins s σ H D I h => ?_⟩
  rw [exec_Assign_Name_used _ _ _ _ hsw]
  refine wpAny_bind (wpAny_standAt (wpAny_bind ?_))
  show wpAny _ X.A (do let _ ← comprehension (.DictComp kx vx [⟨tg, iter, ifs, 0⟩] scope pos) scope X.env (firstIterPos [⟨tg, iter, ifs, 0⟩] pos) newDict false (eval iter X.env) (some (assign (.Name y py) X.env))) _ _ s
  have h : tDc X.w X.K wi g tt tk tv (own.map (·.2)) σ H (fun x H1 => gName i x σ H1 D.nx) := h
  refine wpAny_bind (thn (dc_core (Qf := fun _ s' => SP X pins D .next s') hu hc hN I hi ok hg ht hk hv hs h fun L C s' m H' I' q hn f => ?_) fun _ s' hq => wpAny_pure (wpAny_pure hq))
  show wpAny _ _ (assign (.Name y py) X.env (.ref L)) _ _ _
  refine wpAny_assign_Name (store_ok2 (v := V.ref L) I' hN hy (.inl hyl) rfl (fun s2 I2 ⟨a, sb, ha⟩ => ?_) (.inr hyl))
  obtain ⟨f0, f1, f2, f3, f4, f5⟩ := f
  have haC : C ≠ a := by
    rcases ha with z | z
    · rw [z]; exact f1
    · exact fun e => f4 y a z e.symm
  refine ⟨m, hn.sameBut sb haC, fun h3 sb3 => ?_⟩
  exact ⟨_, H', I2.turned (t' := s2.toks) (fun b o hb e => (sb3.2 b hb).trans e) f0 f1 f3 f4 f5, q⟩
end
end Pe
set_option maxHeartbeats 4000000
namespace Pe
open PySem PySem.Spec PyProof.Rows L2
section
variable {G : Gx} {P : Prog} {cl : Cl} {X : Cx} {E : XK} {σ : L2.St} {a b c e o tg iter kx vx : Expr} {ma m mk mv : M} {pos apos cpos p p2 : Pos} {N : List Str} {sc scope : Scope} {k : Nat}
def enM (P : Prog) (cl : Cl) (t : Tg) (mk mv : M) (cs : Option M) (ρ : Pe.Env) (x : D) (h : Cells) : Out (Option (D × D)) := match bindT t x ρ with
  | some ρ' => match cs with
    | some c => (evalE P cl ρ' c h).toB.bind fun b h => if b then (evalE P cl ρ' mk h).toD.bind fun a h => (evalE P cl ρ' mv h).toD.bind fun b h => .ok (some (a, b)) h else .ok none h
    | none => (evalE P cl ρ' mk h).toD.bind fun a h => (evalE P cl ρ' mv h).toD.bind fun b h => .ok (some (a, b)) h
  | none => .bad
theorem enM_ok {t : Tg} {cs : Option M} {ρ : Pe.Env} {x : D} {h : Cells} {R : Option (D × D) → Cells → Prop} (hh : Okp (enM P cl t mk mv cs ρ x h) R) : ∃ ρ', bindT t x ρ = some ρ' ∧ Okp (testM P cl cs ρ' h) fun b h => if b = true then Okp (evalE P cl ρ' mk h).toD fun a h => Okp (evalE P cl ρ' mv h).toD fun y h => R (some (a, y)) h else R none h := by
  unfold enM at hh
  split at hh
  · rename_i ρ' e
    refine ⟨ρ', e, ?_⟩
    split at hh
    · refine hh.bind.imp fun b h r => ?_
      split
      · rw [if_pos (by assumption)] at r; exact r.bind.imp fun a h r => r.bind
      · rw [if_neg (by assumption)] at r; exact r
    · show Okp _ _
      exact hh.bind.imp fun a h r => r.bind
  · exact hh.elim
theorem evalE_dc {t : Tg} {w : Wk} {cs : Option M} {ρ : Pe.Env} {h : Cells} : evalE P cl ρ (.dc mk mv t w cs) h = (evalI P cl ρ w h).bind fun xs h => (dcGo (enM P cl t mk mv cs ρ) xs [] h).calm.bind fun ys h => .ok (.new (.dic ys)) h := by
  have e : ∀ f g : List D → Cells → Out Val, f = g → (evalI P cl ρ w h).bind f = (evalI P cl ρ w h).bind g := fun f g e => by rw [e]
  have e2 : ∀ (f g : D → Cells → Out (Option (D × D))) (xs : List D) (h : Cells), f = g → ((dcGo f xs [] h).calm.bind fun ys h => (.ok (.new (.dic ys)) h : Out Val)) = (dcGo g xs [] h).calm.bind fun ys h => .ok (.new (.dic ys)) h := fun f g xs h e => by rw [e]
  cases cs with
  | none =>
    rw [evalE]
    refine e _ _ (funext fun xs => funext fun h => e2 _ _ xs h (funext fun x => funext fun h => ?_))
    unfold enM
    cases bindT t x ρ <;> rfl
  | some c =>
    rw [evalE]
    refine e _ _ (funext fun xs => funext fun h => e2 _ _ xs h (funext fun x => funext fun h => ?_))
    unfold enM
    cases bindT t x ρ <;> rfl
theorem rpk_nd {S : Hp} {kvs : List (D × D)} {l : List DE} {kd : D} {kv vv : V} {kk : NestedKey} (nd : (l.map fun p : DE => p.1).Nodup) : ((lput l kk kv vv).map fun p : DE => p.1).Nodup := by
  have e : ((lput l kk kv vv).map fun p : DE => p.1) = if kk ∈ l.map (·.1) then l.map (·.1) else l.map (·.1) ++ [kk] := lput_keys l kk kv vv
  rw [e]
  split
  · exact nd
  · rename_i h
    rw [List.nodup_append]
    exact ⟨nd, by simp, fun x hx y hy z => h (by rw [List.mem_singleton.mp hy] at z; rw [← z]; exact hx)⟩
theorem dc_rd {t : Tg} {w : Wk} {cs : Option M} {ifs : List Expr} {vs0 : List Nat} (g : Good G N sc k X) (hi : SndI G P cl X E σ tg iter w) (hvs : vs0 = tgIx t)
    (hk : Blk X scope fun Y => ∀ σ, SndE G P cl Y (fun _ _ _ => False) σ kx mk) (hv : Blk X scope fun Y => ∀ σ, SndE G P cl Y (fun _ _ _ => False) σ vx mv) (hc : SndC G P cl X scope ifs cs) {ρ : Pe.Env} {S H : Hp} {L : List Addr} {h : Cells} {Q : VK} (ok0 : Ok G S L h H) (en : EnvOk G S L ρ σ) (hp : Post G E L S H (evalE P cl ρ (.dc mk mv t w cs) h) (RV G L S H Q)) :
    tDc X.w X.K (WI X tg iter) (gOf G t) (ttOf X scope ifs) (teOf X scope kx) (teOf X scope vx) vs0 σ H Q := by
  subst hvs
  have hp' : Post G E L S H ((evalI P cl ρ w h).bind fun xs h => (dcGo (enM P cl t mk mv cs ρ) xs [] h).calm.bind fun ys h => .ok (.new (.dic ys)) h) (RV G L S H Q) := by rw [← evalE_dc]; exact hp
  refine hi ρ S L h H ok0 en _ (hp'.bind.imp fun xs h1 q L1 S1 H1 J st1 ok1 yl Dd hD => ?_)
  have q1 := calm_ok q
  rw [g.w, g.K]
  -- what stands at the turn i
  let Inv0 : Nat → Hp → Prop := fun i H' => ∃ S' L' h' acc, ∃ l : List DE, Step L1 S1 H1 L' S' H' ∧ Ok G S' L' h' H' ∧ S' Dd = none ∧ Dd ∉ L' ∧ H' Dd = some (dicO G.w Dd l) ∧ Rpk G S' acc l ∧ (l.map fun p : DE => p.1).Nodup ∧ Okp (dcGo (enM P cl t mk mv cs ρ) (xs.drop i) acc h') fun ys h => RV G L S H Q (.new (.dic ys)) h
  refine ⟨fun i m H' => m = xs.length - i ∧ i ≤ xs.length ∧ Inv0 i H', ⟨xs.length, rfl, Nat.zero_le _, S1, L1, h1, [], [], Step.apart hD, ok1.apart hD, (ok1.free hD).1, (ok1.free hD).2, upd_same, rfl, List.nodup_nil, q1⟩, ?_⟩
  rintro i m H' ⟨rfl, hle, S', L', h', acc, l, st', ok', hs', hl', hh', rs, nd, hg⟩
  obtain ⟨yl1, yl2⟩ := yl i S' L' h' H' st'.s ok'
  by_cases hlt : i < xs.length
  · have hx : xs[i]? = some xs[i] := List.getElem?_eq_getElem hlt
    obtain ⟨go, yd⟩ := yl1 _ hx
    refine .inr ⟨go, Inv0 (i + 1), fun H2 p => ⟨xs.length - (i + 1), by omega, rfl, hlt, p⟩, fun v H2 hy => ?_⟩
    obtain ⟨S2, st2, ok2, rv⟩ := yd v H2 hy
    obtain ⟨hs2, hl2, hh2⟩ := st2.out ok2.sub hl' hs' hh' (fun _ z => nomatch z)
    have hdrop : xs.drop i = xs[i] :: xs.drop (i + 1) := List.drop_eq_getElem_cons hlt
    rw [hdrop] at hg
    have hg2 : Okp ((enM P cl t mk mv cs ρ xs[i] h').bind fun y h => match y with
      | some y => match y.1.hk with
        | some k => if acc.length < sizeLine then dcGo (enM P cl t mk mv cs ρ) (xs.drop (i + 1)) (dput acc y.1 k y.2) h else .bad
        | none => .bad
      | none => dcGo (enM P cl t mk mv cs ρ) (xs.drop (i + 1)) acc h) _ := hg
    obtain ⟨ρ', hb, hg3⟩ := enM_ok hg2.bind
    have en2 : EnvX G S2 L' (tgIx t) ρ (wipe σ (tgIx t)) := ((en.x (tgIx t)).mono ((st1.s.trans st'.s).trans st2.s) (fun n a z => (st1.trans st').pre n a z)).wipe
    refine g_of ok2 en2 rv hb fun σ2 en3 hw => ⟨by rw [hw _ fun _ z => z]; exact wipe_wipe fun v hv => hv, ?_⟩
    refine test_ok hc ok2 en3 hg3 fun b h3 L3 S3 H3 st3 ok3 hr => ?_
    obtain ⟨hs3, hl3, hh3⟩ := st3.out ok3.sub hl2 hs2 hh2 (fun _ z => nomatch z)
    have st03 := (st'.trans st2).trans st3
    split
    · rw [if_pos (by assumption)] at hr
      refine el_ok hk ok3 (en3.step st3) hr fun x h4 L4 S4 H4 u st4 ok4 ru hr2 => ?_
      obtain ⟨hs4, hl4, hh4⟩ := st4.out ok4.sub hl3 hs3 hh3 (fun _ z => nomatch z)
      refine el_ok hv ok4 ((en3.step st3).step st4) hr2 fun y h5 L5 S5 H5 z st5 ok5 rz hr3 => ?_
      obtain ⟨hs5, hl5, hh5⟩ := st5.out ok5.sub hl4 hs4 hh4 (fun _ z => nomatch z)
      have hr4 : Okp (match x.hk with
        | some k => if acc.length < sizeLine then dcGo (enM P cl t mk mv cs ρ) (xs.drop (i + 1)) (dput acc x k y) h5 else .bad
        | none => .bad) _ := hr3
      split at hr4
      · rename_i kk hkk
        split at hr4
        · rename_i hz
          have ru5 := Rp.ext st5.s _ _ ru
          have rs5 := Rpk.ext (((st2.s.trans st3.s).trans st4.s).trans st5.s) _ _ rs
          have kis : KIs G.K H5 kk u := KIs.ext (fun b xs e => ok5.sub _ _ e) _ _ (Rp.key _ _ _ ru5 (hk_key hkk).1)
          exact ⟨l, kk, kis, (hk_key hkk).2, hh5, (rs5.dicw nd).ext fun b xs e => ok5.sub _ _ e, by rw [rs.len]; exact hz, S5, L5, h5, dput acc x kk y, lput l kk u z, ((st03.trans st4).trans st5).own hD hh5 trivial, ok5.own hl5 hs5, hs5, hl5, upd_same, Rpk.put hkk ru5 rz rs5 nd, rpk_nd (S := S5) (kvs := acc) (kd := x) nd, hr4⟩
        · exact hr4.elim
      · exact hr4.elim
    · rw [if_neg (by assumption)] at hr
      exact ⟨S3, L3, h3, acc, l, st03, ok3, hs3, hl3, hh3, Rpk.ext (st2.s.trans st3.s) _ _ rs, nd, hr⟩
  · have ei : i = xs.length := by omega
    subst ei
    refine .inl ⟨yl2 (Nat.le_refl _), ?_⟩
    rw [List.drop_length] at hg
    have hg2 : RV G L S H Q (.new (.dic acc)) h' := hg
    exact hg2 L' S' H' _ (st1.trans st') ok' ⟨Dd, _, rfl, st1.non hD, hs', hl', hh', ⟨l, rfl, rs, nd⟩, rfl⟩
theorem snd_dc {t : Tg} {w : Wk} {cs : Option M} {ifs : List Expr} {own : List (Str × Nat)} (g : Good G N sc k X) (hi : SndI G P cl X E σ tg iter w) (ok : BlkOk X.N X.env.scope scope own) (hvs : own.map (·.2) = tgIx t) (hpg : Blk X scope fun Y => PG Y tg (gOf G t))
    (hk : Blk X scope fun Y => ∀ σ, SndE G P cl Y (fun _ _ _ => False) σ kx mk) (hv : Blk X scope fun Y => ∀ σ, SndE G P cl Y (fun _ _ _ => False) σ vx mv) (hc : SndC G P cl X scope ifs cs) (hs : ∀ es k p, iter ≠ .Set es k p) : SndE G P cl X E σ (.DictComp kx vx [⟨tg, iter, ifs, 0⟩] scope pos) (.dc mk mv t w cs) := fun ρ S L h H ok0 en Q hp =>
  WE.of (pe_dc (by have := g.room.un; omega) g.calm (by rw [g.hN]; exact g.nd) piS ok hpg (pts_ttOf hc) pe_teOf pe_teOf (fold_of hs _)) (dc_rd g hi hvs hk hv hc ok0 en hp)
/-! ### values that are cells of their own -/
def enR (P : Prog) (cl : Cl) (t : Tg) (mk mv : M) (ρ : Pe.Env) (x : D) (h : Cells) : Out (D × Ob) := match bindT t x ρ with
  | some ρ' => (evalE P cl ρ' mk h).toD.bind fun a h => (evalE P cl ρ' mv h).bind fun v h => newOb a v h
  | none => .bad
theorem evalE_dcR {t : Tg} {w : Wk} {ρ : Pe.Env} {h : Cells} : evalE P cl ρ (.dcR mk mv t w) h = (evalI P cl ρ w h).bind fun xs h => (dcGoR (enR P cl t mk mv ρ) xs [] h).calm.bind fun ys h => .ok (.new (.dicR ys)) h := rfl
theorem elN_ok {mel : M} {elt : Expr} (hq : Blk X scope fun Y => ∀ σ, SndE G P cl Y (fun _ _ _ => False) σ elt mel) {ρ : Pe.Env} {σ : L2.St} {S H : Hp} {L : List Addr} {h : Cells} {a : D} {R : D × Ob → Cells → Prop} {Q : VK} (ok : Ok G S L h H) (en : EnvOk G S L ρ σ) (hh : Okp ((evalE P cl ρ mel h).bind fun v h => newOb a v h) R)
    (k : ∀ o h' L' S' H' b ho, Step L S H L' S' H' → Ok G S' L' h' H' → H b = none → S' b = none → b ∉ L' → H' b = some ho → ObIs G S' L' b o ho → o.lim L'.length = true → R (a, o) h' → Q (.ref b) H') : teOf X scope elt σ H Q := fun s H0 C cl' fp =>
  hq s H0 C cl' fp _ ρ S L h H ok en Q (Okp.post (hh.bind.imp fun v h' r L' S' H' vv st ok' hv => by
    cases v with
    | w w => exact False.elim r
    | new o =>
      obtain ⟨b, ho, rfl, h0, hs, hl, ha, hob, lm⟩ := hv
      exact k o h' L' S' H' b ho st ok' h0 hs hl ha hob lm r))
theorem dcR_rd {t : Tg} {w : Wk} {vs0 : List Nat} (g : Good G N sc k X) (hi : SndI G P cl X E σ tg iter w) (hvs : vs0 = tgIx t)
    (hk : Blk X scope fun Y => ∀ σ, SndE G P cl Y (fun _ _ _ => False) σ kx mk) (hv : Blk X scope fun Y => ∀ σ, SndE G P cl Y (fun _ _ _ => False) σ vx mv) {ρ : Pe.Env} {S H : Hp} {L : List Addr} {h : Cells} {Q : VK} (ok0 : Ok G S L h H) (en : EnvOk G S L ρ σ) (hp : Post G E L S H (evalE P cl ρ (.dcR mk mv t w) h) (RV G L S H Q)) :
    tDc X.w X.K (WI X tg iter) (gOf G t) (ttOf X scope []) (teOf X scope kx) (teOf X scope vx) vs0 σ H Q := by
  subst hvs
  rw [evalE_dcR] at hp
  refine hi ρ S L h H ok0 en _ (hp.bind.imp fun xs h1 q L1 S1 H1 J st1 ok1 yl Dd hD => ?_)
  have q1 := calm_ok q
  rw [g.w, g.K]
  let Inv0 : Nat → Hp → Prop := fun i H' => ∃ S' L' h' acc, ∃ l : List DE, Step L1 S1 H1 L' S' H' ∧ Ok G S' L' h' H' ∧ S' Dd = none ∧ Dd ∉ L' ∧ H' Dd = some (dicO G.w Dd l) ∧ Rrk G S' L' acc l ∧ (l.map fun p : DE => p.1).Nodup ∧ Okp (dcGoR (enR P cl t mk mv ρ) (xs.drop i) acc h') fun ys h => RV G L S H Q (.new (.dicR ys)) h
  refine ⟨fun i m H' => m = xs.length - i ∧ i ≤ xs.length ∧ Inv0 i H', ⟨xs.length, rfl, Nat.zero_le _, S1, L1, h1, [], [], Step.apart hD, ok1.apart hD, (ok1.free hD).1, (ok1.free hD).2, upd_same, rfl, List.nodup_nil, q1⟩, ?_⟩
  rintro i m H' ⟨rfl, hle, S', L', h', acc, l, st', ok', hs', hl', hh', rs, nd, hg⟩
  obtain ⟨yl1, yl2⟩ := yl i S' L' h' H' st'.s ok'
  by_cases hlt : i < xs.length
  · have hx : xs[i]? = some xs[i] := List.getElem?_eq_getElem hlt
    obtain ⟨go, yd⟩ := yl1 _ hx
    refine .inr ⟨go, Inv0 (i + 1), fun H2 p => ⟨xs.length - (i + 1), by omega, rfl, hlt, p⟩, fun v H2 hy => ?_⟩
    obtain ⟨S2, st2, ok2, rv⟩ := yd v H2 hy
    obtain ⟨hs2, hl2, hh2⟩ := st2.out ok2.sub hl' hs' hh' (fun _ z => nomatch z)
    have hdrop : xs.drop i = xs[i] :: xs.drop (i + 1) := List.drop_eq_getElem_cons hlt
    rw [hdrop] at hg
    have hg2 : Okp ((enR P cl t mk mv ρ xs[i] h').bind fun y h => match y.1.hk with
      | some k => if acc.length < sizeLine ∧ (dget acc k).isNone = true then dcGoR (enR P cl t mk mv ρ) (xs.drop (i + 1)) (acc ++ [(y.1, h.length)]) (h ++ [⟨y.2, false⟩]) else .bad
      | none => .bad) _ := hg
    have hg3 := hg2.bind
    unfold enR at hg3
    split at hg3
    rotate_left
    · exact hg3.elim
    rename_i ρ' hb
    have en2 : EnvX G S2 L' (tgIx t) ρ (wipe σ (tgIx t)) := ((en.x (tgIx t)).mono ((st1.s.trans st'.s).trans st2.s) (fun n a z => (st1.trans st').pre n a z)).wipe
    refine g_of ok2 en2 rv hb fun σ2 en3 hw => ⟨by rw [hw _ fun _ z => z]; exact wipe_wipe fun v hv => hv, ?_⟩
    refine test_ok (P := P) (cl := cl) (cs := none) (ifs := []) rfl ok2 en3 (R := fun b h => b = true ∧ Okp ((evalE P cl ρ' mk h).toD.bind fun a h => (evalE P cl ρ' mv h).bind fun v h => newOb a v h) _) ⟨rfl, hg3⟩ fun b h3 L3 S3 H3 st3 ok3 hr => ?_
    obtain ⟨rfl, hr⟩ := hr
    obtain ⟨hs3, hl3, hh3⟩ := st3.out ok3.sub hl2 hs2 hh2 (fun _ z => nomatch z)
    have st03 := (st'.trans st2).trans st3
    rw [if_pos rfl]
    refine el_ok hk ok3 (en3.step st3) hr.bind fun x h4 L4 S4 H4 u st4 ok4 ru hr2 => ?_
    obtain ⟨hs4, hl4, hh4⟩ := st4.out ok4.sub hl3 hs3 hh3 (fun _ z => nomatch z)
    refine elN_ok hv ok4 ((en3.step st3).step st4) hr2 fun o h5 L5 S5 H5 b ho st5 ok5 b0 bs bl bh hob lm hr3 => ?_
    obtain ⟨hs5, hl5, hh5⟩ := st5.out ok5.sub hl4 hs4 hh4 (fun _ z => nomatch z)
    have bD : b ≠ Dd := fun z => by subst z; rw [b0] at hh4; cases hh4
    split at hr3
    · rename_i kk hkk
      split at hr3
      · rename_i hz
        obtain ⟨hz, hnew⟩ := hz
        have tot := (st03.trans st4).trans st5
        have ok6 := ok5.push bh bs bl hob (by rw [← ok5.len]; exact lm)
        have b1 : H1 b = none := (st03.trans st4).non b0
        have st6 : Step L1 S1 H1 (L5 ++ [b]) S5 H5 := tot.push b1
        have dl6 : Dd ∉ L5 ++ [b] := fun z => by
          rcases List.mem_append.mp z with z | z
          · exact hl5 z
          · exact bD (List.mem_singleton.mp z).symm
        have ix : (L5 ++ [b])[h5.length]? = some b := by rw [← ok5.len, List.getElem?_append_right (Nat.le_refl _), Nat.sub_self]; rfl
        have ru5 := Rp.ext st5.s _ _ ru
        have pre6 : Pre L' (L5 ++ [b]) := fun n a z => ((((st2.trans st3).trans st4).trans st5).push (((st2.trans st3).trans st4).non b0)).pre n a z
        have rs5 : Rrk G S5 (L5 ++ [b]) acc l := rs.mono (((st2.s.trans st3.s).trans st4.s).trans st5.s) pre6
        have hn : kk ∉ l.map (·.1) := rs.none hnew
        have el : lput l kk u (.ref b) = l ++ [(kk, u, .ref b)] := by unfold lput; rw [if_neg hn]
        have kis : KIs G.K H5 kk u := KIs.ext (fun b xs e => ok5.sub _ _ e) _ _ (Rp.key _ _ _ ru5 (hk_key hkk).1)
        have dw : DicW G.K H5 l := (DicW.mk nd rs5.wf : DicW G.K S5 l).ext fun b xs e => ok5.sub _ _ e
        refine ⟨l, kk, kis, (hk_key hkk).2, hh5, dw, by rw [rs.len]; exact hz, S5, L5 ++ [b], _, _, lput l kk u (.ref b), st6.own hD hh5 trivial, ok6.own dl6 hs5, hs5, dl6, upd_same, ?_, rpk_nd (S := S5) (kvs := []) (kd := x) nd, hr3⟩
        rw [el]
        exact rs5.snoc hkk ru5 ix
      · exact hr3.elim
    · exact hr3.elim
  · have ei : i = xs.length := by omega
    subst ei
    refine .inl ⟨yl2 (Nat.le_refl _), ?_⟩
    rw [List.drop_length] at hg
    have hg2 : RV G L S H Q (.new (.dicR acc)) h' := hg
    exact hg2 L' S' H' _ (st1.trans st') ok' ⟨Dd, _, rfl, st1.non hD, hs', hl', hh', ⟨l, rfl, rs, nd⟩, rs.lim⟩
theorem snd_dcR {t : Tg} {w : Wk} {own : List (Str × Nat)} (g : Good G N sc k X) (hi : SndI G P cl X E σ tg iter w) (ok : BlkOk X.N X.env.scope scope own) (hvs : own.map (·.2) = tgIx t) (hpg : Blk X scope fun Y => PG Y tg (gOf G t))
    (hk : Blk X scope fun Y => ∀ σ, SndE G P cl Y (fun _ _ _ => False) σ kx mk) (hv : Blk X scope fun Y => ∀ σ, SndE G P cl Y (fun _ _ _ => False) σ vx mv) (hs : ∀ es k p, iter ≠ .Set es k p) : SndE G P cl X E σ (.DictComp kx vx [⟨tg, iter, [], 0⟩] scope pos) (.dcR mk mv t w) := fun ρ S L h H ok0 en Q hp =>
  WE.of (pe_dc (by have := g.room.un; omega) g.calm (by rw [g.hN]; exact g.nd) piS ok hpg (pts_ttOf (cs := none) (show SndC G P cl X scope [] none from rfl)) pe_teOf pe_teOf (fold_of hs _)) (dcR_rd g hi hvs hk hv ok0 en hp)
/-! ### the terms of the text -/
theorem Good.blk (g : Good G N sc k X) (s : Shared) (H0 : Hp) (C : Addr) (cl' : List (Str × Addr)) (fp : List Addr) : Good G N (relS scope sc) k (X.blk s H0 scope (compEnvC scope cl' C X.env) fp) :=
  ⟨g.P, g.w, g.K, g.mg, g.base, g.hN, g.nd, by show relS scope X.env.scope = _; rw [g.sc], g.calm, g.room⟩
end
end Pe
set_option maxHeartbeats 4000000
namespace Pe
open PySem PySem.Spec PyProof.Rows L2
section
variable {G : Gx} {P : Prog} {cl : Cl} {k : Nat}
/-- a term and a test -/
def Snd (G : Gx) (P : Prog) (cl : Cl) (X : Cx) (E : XK) (σ : L2.St) (e : Expr) (m : M) : Prop := SndE G P cl X E σ e m ∧ SndT G P cl X E σ e m
theorem snd_of {X : Cx} {E : XK} {e : Expr} {m : M} (h : SndE G P cl X E σ e m) (he : ∀ whole, isTrue e X.env whole = (do let v ← whole; standAt e.pos; holding [v] (truthy v))) : Snd G P cl X E σ e m := ⟨h, snd_tv h he⟩
def TrOk (G : Gx) (P : Prog) (cl : Cl) (X : Cx) (E : XK) (σ : L2.St) (T : Expr → Option M) : Prop := ∀ e m, T e = some m → Snd G P cl X E σ e m
theorem trL_ok {X : Cx} {E : XK} {T : Expr → Option M} (t : TrOk G P cl X E σ T) : ∀ {es : List Expr} {ms : List M}, trL T es = some ms → SndL G P cl X E σ es ms
  | [], ms, h => by cases h; rfl
  | e :: r, ms, h => by
    unfold trL at h
    split at h
    · rename_i hs
      split at h
      · rename_i m q e1 e2
        cases h
        exact ⟨m, q, rfl, hs, (t e m e1).1, trL_ok t e2⟩
      · cases h
    · cases h
theorem trAnd_ok {X : Cx} {E : XK} {T : Expr → Option M} {pos : Pos} (t : TrOk G P cl X E σ T) : ∀ {es : List Expr} {m : M}, trB T .and es = some m → SndE G P cl X E σ (.BoolOp .And es pos) m ∧ SndW G P cl X E σ (.BoolOp .And es pos) m
  | [], m, h => by cases h
  | [e], m, h => ⟨snd_one (t e m h).1, snd_and1 (t e m h).2⟩
  | e :: e' :: r, m, h => by
    have h' : (match T e, trB T .and (e' :: r) with | some m, some q => some (M.and m q) | _, _ => none) = some m := h
    split at h'
    · rename_i x q e1 e2
      cases h'
      obtain ⟨h1, h2⟩ := trAnd_ok (pos := pos) t e2
      exact ⟨snd_and (t e x e1).1 h1, snd_andW (t e x e1).2 h2⟩
    · cases h'
theorem trOr_ok {X : Cx} {E : XK} {T : Expr → Option M} {pos : Pos} (t : TrOk G P cl X E σ T) : ∀ {es : List Expr} {m : M}, trB T .or es = some m → SndE G P cl X E σ (.BoolOp .Or es pos) m ∧ SndW G P cl X E σ (.BoolOp .Or es pos) m
  | [], m, h => by cases h
  | [e], m, h => ⟨snd_one (t e m h).1, snd_or1 (t e m h).2⟩
  | e :: e' :: r, m, h => by
    have h' : (match T e, trB T .or (e' :: r) with | some m, some q => some (M.or m q) | _, _ => none) = some m := h
    split at h'
    · rename_i x q e1 e2
      cases h'
      obtain ⟨h1, h2⟩ := trOr_ok (pos := pos) t e2
      exact ⟨snd_or (t e x e1).1 h1, snd_orW (t e x e1).2 h2⟩
    · cases h'
theorem trO_ok {X : Cx} {E : XK} {T : Expr → Option M} (t : TrOk G P cl X E σ T) {e : Option Expr} {m : Option M} (h : trO T e = some m) : SndO G P cl X E σ e m := by
  cases e with
  | none => cases h; rfl
  | some e =>
    obtain ⟨q, h1, rfl⟩ := Option.map_eq_some_iff.mp (show (T e).map some = some m from h)
    exact ⟨q, rfl, (t e q h1).1⟩
theorem trWk_ok {X : Cx} {E : XK} {N : List Str} {sc : Scope} {j : Nat} {T : Expr → Option M} {tg iter : Expr} {w : Wk} (g : Good G N sc j X) (pf : PF G P) (t : TrOk G P cl X E σ T) (h : trWk T sc tg iter = some w) : SndI G P cl X E σ tg iter w ∧ ∀ es k p, iter ≠ .Set es k p := by
  have val : ∀ {e : Expr}, (T e).map Wk.val = some w → SndI G P cl X E σ tg e w := fun {e} h => by
    obtain ⟨q, h1, rfl⟩ := Option.map_eq_some_iff.mp h
    exact snd_wval g (t e q h1).1
  unfold trWk at h
  split at h
  · rename_i x p0 a q
    refine ⟨?_, fun _ _ _ z => by cases z⟩
    split at h
    · rename_i hc
      rw [Bool.and_eq_true, beq_iff_eq] at hc
      obtain ⟨hg, rfl⟩ := hc
      split at h
      · rename_i hs
        obtain ⟨q, h1, rfl⟩ := Option.map_eq_some_iff.mp h
        exact snd_wrange g pf (t a q h1).1 hs hg
      · cases h
    · split at h
      · rename_i hc
        rw [Bool.and_eq_true, beq_iff_eq] at hc
        obtain ⟨hg, rfl⟩ := hc
        split at h
        · rename_i hs
          rw [Bool.and_eq_true] at hs
          obtain ⟨q, h1, rfl⟩ := Option.map_eq_some_iff.mp h
          have htg := hs.1
          unfold isPairTg at htg
          split at htg
          · exact snd_wenum g pf (t a q h1).1 hs.2 hg
          · cases htg
        · cases h
      · exact val h
  · rename_i x p0 a b q
    refine ⟨?_, fun _ _ _ z => by cases z⟩
    split at h
    · rename_i hc
      rw [Bool.and_eq_true, beq_iff_eq] at hc
      obtain ⟨hg, rfl⟩ := hc
      split at h
      · rename_i hs
        rw [Bool.and_eq_true] at hs
        split at h
        · rename_i m n e1 e2
          cases h
          exact snd_wrange2 g pf (t a _ e1).1 (t b _ e2).1 hs.1 hs.2 hg
        · cases h
      · cases h
    · exact val h
  · rename_i e m apos cpos
    refine ⟨?_, fun _ _ _ z => by cases z⟩
    split at h
    · rename_i hm
      subst hm
      split at h
      · rename_i hs
        rw [Bool.and_eq_true, Bool.and_eq_true] at hs
        obtain ⟨q, h1, rfl⟩ := Option.map_eq_some_iff.mp h
        have htg := hs.1.1
        unfold isPairTg at htg
        split at htg
        · exact snd_witems g (t e q h1).1 hs.1.2 hs.2
        · cases htg
      · cases h
    · split at h
      · rename_i hm
        subst hm
        split at h
        · rename_i hs
          rw [Bool.and_eq_true] at hs
          obtain ⟨q, h1, rfl⟩ := Option.map_eq_some_iff.mp h
          exact snd_wvalues g (t e q h1).1 hs.1 hs.2
        · cases h
      · exact val h
  · cases h
  · rename_i e h1 h2 h3 h4
    exact ⟨val h, fun es k p z => h4 es k p z⟩
theorem own_ix {N : List Str} {tg : Expr} {t : Tg} (h : trTg N tg = some t) : (ownOf N tg).map (·.2) = tgIx t := by
  unfold trTg at h
  split at h
  · obtain ⟨i, hi, rfl⟩ := Option.map_eq_some_iff.mp h
    simp [ownOf, tgNames, hi, tgIx]
  · split at h
    · rename_i i j hi hj
      cases h
      simp [ownOf, tgNames, hi, hj, tgIx]
    · cases h
  · cases h
theorem snd_call {X : Cx} {E : XK} {N : List Str} {sc : Scope} {x : Str} {es : List Expr} {ms : List M} {p pos : Pos} (g : Good G N sc (k + 1) X) (cf : Cfs G P cl k) (hx : PassesAt (L2.CX X.prog X.w) X σ E) (hg : isGl sc x = true) (hl : SndL G P cl X E σ es ms) : SndE G P cl X E σ (.Call (.Name x p) es [] pos) (.call x ms) := by
  intro ρ S L h H ok en Q hp
  have hp' : Post G E L S H (if callOk P x ms.length = true then (evalWs P cl ρ ms h).bind fun ws h => callM P cl x ws h else .bad) (RV G L S H Q) := hp
  by_cases hk : callOk P x ms.length = true
  · unfold callOk at hk
    by_cases hf : P.isFn "" x = true
    · exact snd_callF g cf hx hg hl hf ρ S L h H ok en Q hp
    rw [show P.isFn "" x = false from by simpa using hf, Bool.false_or] at hk
    cases hc : P.cls x with
    | some d =>
      rw [hc] at hk
      by_cases hi : P.isFn x "__init__" = true
      · exact snd_callC g cf hx hg hl hf hc hi ρ S L h H ok en Q hp
      · have hk : (P.isFn x "__init__" || (decide (0 < ms.length) && (P.kwa x ms.length []).isSome)) = true := hk
        rw [show P.isFn x "__init__" = false by simpa using hi, Bool.false_or, Bool.and_eq_true] at hk
        obtain ⟨arr, ha⟩ := Option.isSome_iff_exists.mp hk.2
        cases es with
        | nil =>
          have e : ms = [] := hl
          rw [e] at hk
          cases hk.1
        | cons e es =>
          refine snd_kw (kws := []) (vms := []) g cf hx hg hl rfl hc ha ok en ?_
          have hp3 := call_hp (by unfold callOk; rw [hc]; simp [hi, ha, hk.1]) hp
          rw [evalWs_chk] at hp3 ⊢
          have e0 : (fun ws h => if ws.length = ms.length then callM P cl x ws h else Out.bad) = fun ws h => if ws.length = ms.length then ((evalWs P cl ρ (([] : List (Str × M)).map (·.2)) h).bind fun zs h => match pickAll ws zs arr with
            | some us => makeK P cl x us h
            | none => .bad) else .bad := by
            funext ws h
            split
            · rename_i lw
              unfold callM
              rw [if_neg hf, hc]
              simp only [show P.isFn x "__init__" = false by simpa using hi, Bool.false_eq_true, if_false, lw, ha]
              rfl
            · rfl
          rw [e0] at hp3
          exact hp3
    | none =>
      rw [hc] at hk
      have hk' : (P.free x && (Bf.of x).isSome) = true := hk
      rw [Bool.and_eq_true] at hk'
      obtain ⟨b, hb⟩ := Option.isSome_iff_exists.mp hk'.2
      exact snd_callB g cf hx hg hl hf hc hk'.1 hb ρ S L h H ok en Q hp
  · rw [if_neg hk] at hp'
    exact hp'.elim
theorem trKw_ok {X : Cx} {E : XK} {T : Expr → Option M} (t : TrOk G P cl X E σ T) : ∀ {kws : List Keyword} {ms : List (Str × M)}, trKw T kws = some ms → SndK G P cl X E σ kws ms
  | [], ms, h => by cases h; rfl
  | ⟨nm, e, kp⟩ :: r, ms, h => by
    cases nm with
    | none => cases h
    | some x =>
      have h' : (match T e, trKw T r with | some m, some ms => some ((x, m) :: ms) | _, _ => none) = some ms := h
      split at h'
      · rename_i m q e1 e2
        cases h'
        exact ⟨x, m, q, rfl, rfl, (t _ _ e1).1, trKw_ok t e2⟩
      · cases h'
theorem snd_callKw {X : Cx} {E : XK} {N : List Str} {sc : Scope} {x : Str} {e : Expr} {es : List Expr} {ms : List M} {kws : List Keyword} {vms : List (Str × M)} {p pos : Pos} (g : Good G N sc (k + 1) X) (cf : Cfs G P cl k) (hx : PassesAt (L2.CX X.prog X.w) X σ E) (hg : isGl sc x = true) (hl : SndL G P cl X E σ (e :: es) ms) (hkw : SndK G P cl X E σ kws vms) :
    SndE G P cl X E σ (.Call (.Name x p) (e :: es) kws pos) (.callK x ms (vms.map (·.1)) (vms.map (·.2))) := by
  intro ρ S L h H ok en Q hp
  have hp' : Post G E L S H (match P.kwa x ms.length (vms.map (·.1)), P.cls x with
    | some arr, some _ => (evalWs P cl ρ ms h).bind fun ws h => (evalWs P cl ρ (vms.map (·.2)) h).bind fun zs h => match pickAll ws zs arr with
      | some us => makeK P cl x us h
      | none => .bad
    | none, none => if maxOk P x ms.length (vms.map (·.1)) = true then (evalWs P cl ρ ms h).bind fun ws h => (evalWs P cl ρ (vms.map (·.2)) h).bind fun zs h => maxDM ws zs h else .bad
    | _, _ => .bad) (RV G L S H Q) := hp
  split at hp'
  · rename_i arr d ha hc
    exact snd_kw g cf hx hg hl hkw hc ha ok en hp'
  · split at hp'
    · rename_i hm
      exact snd_maxD g cf hg hl hkw hm ok en hp'
    · exact hp'.elim
  · exact hp'.elim
theorem passAt0 {X : Cx} (σ : L2.St) : PassesAt (L2.CX X.prog X.w) X σ (fun _ _ _ => False) := fun pins H s e s' I h => passL pins σ H s e s' I h
theorem tr_ok (cf : Cfs G P cl k) : ∀ (n : Nat) {N : List Str} {sc : Scope} {X : Cx} {E : XK} {σ : L2.St}, Good G N sc (k + 1) X → PassesAt (L2.CX X.prog X.w) X σ E → TrOk G P cl X E σ (trE N n sc)
  | 0, N, sc, X, E, σ, g, hx => fun e m h => by cases h
  | n + 1, N, sc, X, E, σ, g, hx => fun e m h => by
    have ih : TrOk G P cl X E σ (trE N n sc) := tr_ok cf n g hx
    have pf := cf.toPF
    unfold trE at h
    split at h
    · -- a name
      rename_i x p0
      split at h
      · rename_i hv
        obtain ⟨i, hi, rfl⟩ := Option.map_eq_some_iff.mp h
        exact snd_of (snd_var g hv hi) fun _ => rfl
      · split at h
        · rename_i hv
          cases h
          exact snd_of (snd_glob pf g hv) fun _ => rfl
        · cases h
    · obtain ⟨d, hd, rfl⟩ := Option.map_eq_some_iff.mp h
      exact snd_of (snd_con hd) fun _ => rfl
    · split at h
      · rename_i e1 e2
        cases h
        exact snd_of (bin_any g.K (ih _ _ e1).1 (ih _ _ e2).1 _) fun _ => rfl
      · cases h
    · obtain ⟨q, hq, rfl⟩ := Option.map_eq_some_iff.mp h
      exact ⟨snd_not (ih _ _ hq).1, snd_notT (ih _ _ hq).2⟩
    · obtain ⟨q, hq, rfl⟩ := Option.map_eq_some_iff.mp h
      exact snd_of (snd_neg (ih _ _ hq).1) fun _ => rfl
    · obtain ⟨h1, h2⟩ := trAnd_ok (pos := _) ih h
      exact ⟨h1, fun ρ S L h H ok en Q hp => wt_of_ww (h2 ρ S L h H ok en Q hp)⟩
    · obtain ⟨h1, h2⟩ := trOr_ok (pos := _) ih h
      exact ⟨h1, fun ρ S L h H ok en Q hp => wt_of_ww (h2 ρ S L h H ok en Q hp)⟩
    · split at h
      · rename_i hm
        split at h
        · rename_i e1 e2
          cases h
          have hm' := by simpa using hm
          exact ⟨snd_cmp (ih _ _ e1).1 (ih _ _ e2).1 (cmp_all g cf hx _) hm', snd_cmpT (ih _ _ e1).1 (ih _ _ e2).1 (cmp_all g cf hx _) hm'⟩
        · cases h
      · cases h
    · split at h
      · rename_i hm
        split at h
        · rename_i e1 e2 e3
          cases h
          exact snd_chain (ih _ _ e1).1 (ih _ _ e2).1 (ih _ _ e3).1 (by simpa using hm)
        · cases h
      · cases h
    · split at h
      · rename_i e1 e2 e3
        cases h
        exact ⟨snd_ife (ih _ _ e1).2 (ih _ _ e2).1 (ih _ _ e3).1, snd_ifeT (ih _ _ e1).2 (ih _ _ e2).2 (ih _ _ e3).2⟩
      · cases h
    · obtain ⟨q, hq, rfl⟩ := Option.map_eq_some_iff.mp h
      exact snd_of (snd_tup (trL_ok ih hq)) fun _ => rfl
    · split at h
      · rename_i e1 e2
        cases h
        exact snd_of (snd_lstS g (ih _ _ e1).1 (trL_ok ih e2)) fun _ => rfl
      · cases h
    · obtain ⟨q, hq, rfl⟩ := Option.map_eq_some_iff.mp h
      exact snd_of (snd_lst (trL_ok ih hq)) fun _ => rfl
    · cases h
      exact snd_of (snd_dnew g) fun _ => rfl
    · -- a call of a name
      rename_i x p0 es p1
      split at h
      · rename_i hg
        split at h
        · rename_i hi
          rw [beq_iff_eq] at hi
          subst hi
          split at h
          · rename_i a t p2
            split at h
            · rename_i hc
              rw [Bool.and_eq_true] at hc
              obtain ⟨q, hq, rfl⟩ := Option.map_eq_some_iff.mp h
              exact snd_of (snd_isi g cf (ih _ _ hq).1 hc.2 hg hc.1) fun _ => rfl
            · cases h
          · cases h
        · obtain ⟨q, hq, rfl⟩ := Option.map_eq_some_iff.mp h
          exact snd_of (snd_call g cf hx hg (trL_ok ih hq)) fun _ => rfl
      · cases h
    · -- a class with keywords
      split at h
      · rename_i hg
        split at h
        · rename_i ms vs e1 e2
          cases h
          exact snd_of (snd_callKw g cf hx hg (trL_ok ih e1) (trKw_ok ih e2)) fun _ => rfl
        · cases h
      · cases h
    · -- a method
      split at h
      · rename_i hc
        rw [Bool.and_eq_true] at hc
        split at h
        · rename_i e1 e2
          split at h
          · rename_i hz
            cases h
            split
            · rename_i hm
              exact snd_of (snd_bm g (ih _ _ e1).1 hm (trL_ok ih e2) hz hc.1 hc.2) fun _ => rfl
            · exact snd_of (snd_meth g cf hx (ih _ _ e1).1 (trL_ok ih e2) hz hc.1 hc.2) fun _ => rfl
          · cases h
        · cases h
      · cases h
    · split at h
      · rename_i hs
        obtain ⟨q, hq, rfl⟩ := Option.map_eq_some_iff.mp h
        exact snd_of (snd_attr g cf (ih _ _ hq).1 hs) fun _ => rfl
      · cases h
    · split at h
      · rename_i e1 e2 e3
        cases h
        exact snd_of (snd_slice (ih _ _ e1).1 (trO_ok ih e2) (trO_ok ih e3) g) fun _ => rfl
      · cases h
    · split at h
      · rename_i hs
        split at h
        · rename_i e1 e2
          cases h
          exact snd_of (snd_pick g (trL_ok ih e1) (ih _ _ e2).1 hs) fun _ => rfl
        · cases h
      · cases h
    · split at h
      · rename_i hs
        split at h
        · rename_i e1 e2
          cases h
          exact snd_of (snd_sub g (ih _ _ e1).1 (ih _ _ e2).1 hs) fun _ => rfl
        · cases h
      · cases h
    · -- a list comprehension
      rename_i elt tg iter ifs kk scope p0
      split at h
      · rename_i hc
        rw [Bool.and_eq_true, Bool.and_eq_true, beq_iff_eq] at hc
        obtain ⟨⟨rfl, hb⟩, ht⟩ := hc
        have bok : BlkOk X.N X.env.scope scope (ownOf N tg) := by rw [g.hN, g.sc]; exact blkOk_by hb
        split at h
        · rename_i t w m' e1 e2 e3
          obtain ⟨hi, hset⟩ := trWk_ok g pf ih e2
          have pgb : Blk X scope fun Y => PG Y tg (gOf G t) := fun s H0 C cl' fp => pg_of (g.blk s H0 C cl' fp).hN (g.blk s H0 C cl' fp).K g.nd (g.blk s H0 C cl' fp).calm (fun x hx => by
            have q := List.all_eq_true.mp ht x hx
            rw [Bool.or_eq_true] at q
            rcases q with q | q
            · have e : (compEnvC scope cl' C X.env).scope.names.lookup x = some .local := lookup_relS_keep (by decide) (of_decide_eq_true q)
              exact ⟨.inl e, .inr e⟩
            · have e : (compEnvC scope cl' C X.env).scope.names.lookup x = some .cell := lookup_relS_keep (by decide) (of_decide_eq_true q)
              exact ⟨.inr e, .inl (by show (scope.names.lookup x == some .cell) = true; rw [of_decide_eq_true q]; rfl)⟩) e1
          have el : Blk X scope fun Y => ∀ σ', TrOk G P cl Y (fun _ _ _ => False) σ' (trE N n (relS scope sc)) := fun s H0 C cl' fp σ' => tr_ok cf n (g.blk s H0 C cl' fp) (passAt0 σ')
          split at h
          · cases h
            exact snd_of (snd_lc g hi bok (own_ix e1) pgb (fun s H0 C cl' fp σ' => (el s H0 C cl' fp σ' _ _ e3).1) rfl hset) fun _ => rfl
          · obtain ⟨q, hq, rfl⟩ := Option.map_eq_some_iff.mp h
            exact snd_of (snd_lc g hi bok (own_ix e1) pgb (fun s H0 C cl' fp σ' => (el s H0 C cl' fp σ' _ _ e3).1) ⟨q, rfl, fun s H0 C cl' fp σ' => (el s H0 C cl' fp σ' _ _ hq).2⟩ hset) fun _ => rfl
          · cases h
        · cases h
      · cases h
    · -- a dict comprehension
      rename_i kx vx tg iter ifs kk scope p0
      split at h
      · rename_i hc
        rw [Bool.and_eq_true, Bool.and_eq_true, beq_iff_eq] at hc
        obtain ⟨⟨rfl, hb⟩, ht⟩ := hc
        have bok : BlkOk X.N X.env.scope scope (ownOf N tg) := by rw [g.hN, g.sc]; exact blkOk_by hb
        split at h
        · rename_i t w m' q' e1 e2 e3 e4
          obtain ⟨hi, hset⟩ := trWk_ok g pf ih e2
          have pgb : Blk X scope fun Y => PG Y tg (gOf G t) := fun s H0 C cl' fp => pg_of (g.blk s H0 C cl' fp).hN (g.blk s H0 C cl' fp).K g.nd (g.blk s H0 C cl' fp).calm (fun x hx => by
            have q := List.all_eq_true.mp ht x hx
            rw [Bool.or_eq_true] at q
            rcases q with q | q
            · have e : (compEnvC scope cl' C X.env).scope.names.lookup x = some .local := lookup_relS_keep (by decide) (of_decide_eq_true q)
              exact ⟨.inl e, .inr e⟩
            · have e : (compEnvC scope cl' C X.env).scope.names.lookup x = some .cell := lookup_relS_keep (by decide) (of_decide_eq_true q)
              exact ⟨.inr e, .inl (by show (scope.names.lookup x == some .cell) = true; rw [of_decide_eq_true q]; rfl)⟩) e1
          have el : Blk X scope fun Y => ∀ σ', TrOk G P cl Y (fun _ _ _ => False) σ' (trE N n (relS scope sc)) := fun s H0 C cl' fp σ' => tr_ok cf n (g.blk s H0 C cl' fp) (passAt0 σ')
          split at h
          · cases h
            split
            · exact snd_of (snd_dcR g hi bok (own_ix e1) pgb (fun s H0 C cl' fp σ' => (el s H0 C cl' fp σ' _ _ e3).1) (fun s H0 C cl' fp σ' => (el s H0 C cl' fp σ' _ _ e4).1) hset) fun _ => rfl
            · exact snd_of (snd_dc g hi bok (own_ix e1) pgb (fun s H0 C cl' fp σ' => (el s H0 C cl' fp σ' _ _ e3).1) (fun s H0 C cl' fp σ' => (el s H0 C cl' fp σ' _ _ e4).1) rfl hset) fun _ => rfl
          · obtain ⟨q, hq, rfl⟩ := Option.map_eq_some_iff.mp h
            exact snd_of (snd_dc g hi bok (own_ix e1) pgb (fun s H0 C cl' fp σ' => (el s H0 C cl' fp σ' _ _ e3).1) (fun s H0 C cl' fp σ' => (el s H0 C cl' fp σ' _ _ e4).1) ⟨q, rfl, fun s H0 C cl' fp σ' => (el s H0 C cl' fp σ' _ _ hq).2⟩ hset) fun _ => rfl
          · cases h
        · cases h
      · cases h
    · cases h
end
end Pe
set_option maxHeartbeats 4000000
namespace Pe
open PySem PySem.Spec PyProof.Rows L2
/-! ## statements: from the text -/
def locB (sc : Scope) (x : Str) : Bool := match sc.names.lookup x with
  | some .local => true
  | some .cell => true
  | _ => false
/-- the store that a comprehension does itself -/
def swapB (sc : Scope) (e : Expr) (x : Str) (p : Pos) : Bool := match e with
  | .ListComp _ _ s _ => decide (sc.names.lookup x = some .local) && (p.line == e.pos.line) && !(s.names.any fun (n, k) => n == x && (k == .local || k == .cell))
  | .DictComp _ _ _ s _ => decide (sc.names.lookup x = some .local) && (p.line == e.pos.line) && !(s.names.any fun (n, k) => n == x && (k == .local || k == .cell))
  | _ => false
def noComp : Expr → Bool
  | .ListComp _ _ _ _ => false
  | .SetComp _ _ _ _ => false
  | .DictComp _ _ _ _ _ => false
  | _ => true
def noSet : Expr → Bool
  | .SetComp _ _ _ _ => false
  | _ => true
def noTup : Expr → Bool
  | .Tuple _ _ _ => false
  | _ => true
def trSs (T : Stmt → Option S) : List Stmt → Option (List S)
  | [] => some []
  | s :: r => match trSs T r with
    | some qs => some ((T s).getD .nope :: qs)
    | none => none
/-- both stores without a tuple -/
def parB (sc : Scope) (x y : Str) (p1 p2 : Pos) (a b : Expr) : Bool := decide (sc.names.lookup x = some .local) && decide (sc.names.lookup y = some .local) && (p1.line == p2.line) && !(x == y) && notStar a && notStar b
  && !([a, b].all (foldedForSure 8)) && !([a, b].all (constantsAlone 8))
/-- .. no swap of them -/
def noParB (sc : Scope) (x y : Str) : Bool := !(decide (sc.names.lookup x = some .local)) || !(decide (sc.names.lookup y = some .local))
def parOk (sc : Scope) (x y : Str) (p1 p2 : Pos) : Expr → Bool
  | .Tuple [a, b] _ _ => parB sc x y p1 p2 a b || noParB sc x y
  | e => noTup e
def trHs (sc : Scope) : List ExceptHandler → Option (List Hd)
  | [] => some []
  | .ExceptHandler (some (.Name x _)) none [.Return (some (.Constant c _ _)) _] _ :: r => if isGl sc x then (match trC c, trHs sc r with
    | some d, some q => some (.mk x none [.ret (some (.con d))] :: q)
    | _, _ => none) else none
  | _ => none
/-- the slots of several names -/
def trNs (N : List Str) (sc : Scope) : List Expr → Option (List Nat)
  | [] => some []
  | .Name x _ :: r => if locB sc x then (match ixOf N x, trNs N sc r with
    | some i, some is => some (i :: is)
    | _, _ => none) else none
  | _ => none
def ownName (own : List Str) : Expr → Bool
  | .Name x _ => own.contains x
  | _ => false
/-- two names, from a display: some become cells -/
def parS (sc : Scope) (own : List Str) (x y : Str) (p1 p2 : Pos) (i j : Nat) (e : Expr) (m : M) : S := match e, m with
  | .Tuple [a, b] _ _, .tup ms => if own.contains x || own.contains y then .parO [i, j] [own.contains x, own.contains y] ms else .asg (.tup [i, j]) false m
  | _, m => .asg (.tup [i, j]) false m
def trS (N own : List Str) : Nat → Scope → Stmt → Option S
  | 0, _, _ => none
  | n + 1, sc, st => match st with
    | .Assign [.Name x _] e _ => if locB sc x && noSet e then (match ixOf N x, trE N n sc e with
      | some i, some m => some (.asg (.name i) (own.contains x) m)
      | _, _ => none) else none
    | .Assign [.Tuple [.Name x p1, .Name y p2] _ _] e _ => if locB sc x && locB sc y && parOk sc x y p1 p2 e then (match ixOf N x, ixOf N y, trE N n sc e with
      | some i, some j, some m => some (parS sc own x y p1 p2 i j e m)
      | _, _, _ => none) else none
    | .Assign [.Tuple es _ _] (.List xs _) _ => if xs.length == es.length && decide (xs.length < 20) then (match trNs N sc es, trL (trE N n sc) xs with
      | some ts, some ms => some (.parO ts (es.map (ownName own)) ms)
      | _, _ => none) else none
    | .Assign [.Tuple es _ _] e _ => if noTup e then (match trNs N sc es, trE N n sc e with
      | some ts, some m => some (.unp ts m)
      | _, _ => none) else none
    | .Assign [.Attribute o f _] e _ => match trE N n sc o, trE N n sc e with
      | some o, some m => some (.setA o f (own.contains f) m)
      | _, _ => none
    | .Assign [.Subscript o i _] e _ => if notSlice i then (match trE N n sc o, trE N n sc i, trE N n sc e with
      | some o, some i, some m => some (.setI o i m)
      | _, _, _ => none) else none
    | .AugAssign (.Name x _) op e _ => if locB sc x && (op == .Add || op == .Sub) then (match ixOf N x, trE N n sc e with
      | some i, some m => some (.augN i op m)
      | _, _ => none) else none
    | .Expr e _ => if noComp e then (trE N n sc e).map .expr else none
    | .Return none _ => some (.ret none)
    | .Return (some e) _ => (trE N n sc e).map fun m => .ret (some (if ownName own e = true then .settle m else m))
    | .If c a b _ => match trE N n sc c, trSs (trS N own n sc) a, trSs (trS N own n sc) b with
      | some c, some a, some b => some (.ife c a b)
      | _, _, _ => none
    | .For tg iter body [] _ => if (tgNames tg).all (locB sc) then (match trTg N tg, trWk (trE N n sc) sc tg iter, trSs (trS N own n sc) body with
      | some t, some w, some b => some (.forr t w b)
      | _, _, _ => none) else none
    | .While c body [] _ => match trE N n sc c, trSs (trS N own n sc) body with
      | some c, some b => some (.whil c b)
      | _, _ => none
    | .Raise (some (.Call (.Name x _) [.Constant (.str _) _ _] [] _)) none _ => if isGl sc x then some (.raise x []) else none
    | .Try body (h0 :: hs) [] [] _ => match trSs (trS N own n sc) body, trHs sc (h0 :: hs) with
      | some b, some q => some (.tryy b q)
      | _, _ => none
    | .Break _ => some .brk
    | .Continue _ => some .cont
    | .Pass _ => some .pass
    | _ => none
/-! ## what statements do -/
/-- slots and cells behind a statement -/
def RS (G : Gx) (L : List Addr) (S H : Hp) (K : L2.St → Hp → Prop) : Pe.Env → Cells → Prop := fun ρ h => ∀ L' S' H' σ', Step L S H L' S' H' → Ok G S' L' h H' → EnvOk G S' L' ρ σ' → K σ' H'
def PostS (G : Gx) (De : Ends) (W : WX) (L : List Addr) (S H : Hp) (o : SOut) : Prop := match o with
  | .nx ρ h => RS G L S H De.nx ρ h
  | .bk ρ h => RS G L S H De.bk ρ h
  | .ct ρ h => RS G L S H De.ct ρ h
  | .rt v h => RV G L S H De.rt v h
  | .exc e ρ h => ∀ L' S' H' σ' cls d, Step L S H L' S' H' → Ok G S' L' h H' → EnvOk G S' L' ρ σ' → XIs G S' e cls d → W cls d σ' H'
  | .bad => False
/-- what must hold of the context of a def's body -/
structure GoodS (G : Gx) (N : List Str) (sc : Scope) (k : Nat) (X : Cx) (W : WX) : Prop extends Good G N sc k X where
  kind : X.env.scope.kind = .function
  fn : ∀ x, X.env.scope.names.lookup x = some .cell → X.fn x = true
  own : PassesOwn (model X.prog X.w) X.A X.env X.xe
  tk : Takes X W
  st : X.stack = X.env :: X.outer
  ff : X.env.frame = some X.env.locals
def SndS (G : Gx) (P : Prog) (cl : Cl) (wf : Nat) (X : Cx) (W : WX) (st : Stmt) (s : S) : Prop := ∀ ρ σ S L h H, Ok G S L h H → EnvOk G S L ρ σ → ∀ De : Ends, PostS G De W L S H (evalS P cl wf s ρ h) → WS X st De σ H
def SndSs (G : Gx) (P : Prog) (cl : Cl) (wf : Nat) (X : Cx) (W : WX) (st : List Stmt) (s : List S) : Prop := ∀ ρ σ S L h H, Ok G S L h H → EnvOk G S L ρ σ → ∀ De : Ends, PostS G De W L S H (evalSs P cl wf s ρ h) → WSs X st De σ H
abbrev eW (W : WX) (σ : L2.St) : XK := fun cls d H => W cls d σ H
section
variable {G : Gx} {P : Prog} {cl : Cl} {wf : Nat} {X : Cx} {W : WX} {N : List Str} {sc : Scope} {k : Nat} {De : Ends} {L L1 : List Addr} {S H S1 H1 : Hp} {ρ : Pe.Env} {σ : L2.St} {h : Cells} {e : Expr} {m : M} {pos p : Pos}
theorem RS.sh {K : L2.St → Hp → Prop} (st : Step L S H L1 S1 H1) (r : RS G L S H K ρ h) : RS G L1 S1 H1 K ρ h := fun L' S' H' σ' s ok en => r L' S' H' σ' (st.trans s) ok en
theorem PostS.sh {o : SOut} (st : Step L S H L1 S1 H1) (r : PostS G De W L S H o) : PostS G De W L1 S1 H1 o := by
  cases o with
  | nx ρ h => exact RS.sh st r
  | bk ρ h => exact RS.sh st r
  | ct ρ h => exact RS.sh st r
  | rt v h => exact RV.shift st r
  | exc x ρ h => exact fun L' S' H' σ' cls d s ok en hx => r L' S' H' σ' cls d (st.trans s) ok en hx
  | bad => exact r
theorem then_post {α : Type} {o : Out α} {f : α → Cells → SOut} (en : EnvOk G S L ρ σ) (r : PostS G De W L S H (o.thenS ρ f)) : Post G (eW W σ) L S H o fun a h => PostS G De W L S H (f a h) := by
  cases o with
  | ok a h => exact r
  | exc x h => exact fun L' S' H' cls d st ok hx => r L' S' H' σ cls d st ok (en.step st) hx
  | bad => exact r
theorem rs_now {K : L2.St → Hp → Prop} (ok : Ok G S L h H) (en : EnvOk G S L ρ σ) (r : RS G L S H K ρ h) : K σ H := r L S H σ Step.refl ok en
theorem EnvOk.set {i : Nat} {w : Pe.W} {v : V} (en : EnvOk G S L ρ σ) (r : WIs G S L w v) : EnvOk G S L (ρ.set i (some w)) (σ.set i (some v)) := (EnvX.set (vs := []) (en.x [i]) r).ok
theorem EnvOk.unset {i : Nat} (en : EnvOk G S L ρ σ) : EnvOk G S L (ρ.set i none) σ := by
  refine ⟨by rw [List.length_set]; exact en.1, fun j w q => ?_⟩
  by_cases e : i = j
  · subst e
    rw [List.getElem?_set] at q
    simp at q
  · rw [List.getElem?_set_ne e] at q; exact en.2 j w q
theorem post_S {o : Out Val} {R : Val → Cells → Prop} {E : XK} {Q : VK} (h1 : Post G E L S H o R) (h2 : ∀ v h, R v h → RV G L S H Q v h) : Post G E L S H o (RV G L S H Q) := h1.imp h2
theorem loc_of {x : Str} (h : locB sc x = true) : sc.names.lookup x = some .local ∨ sc.names.lookup x = some .cell := by
  unfold locB at h
  split at h
  · exact .inl (by assumption)
  · exact .inr (by assumption)
  · cases h
theorem GoodS.loc (g : GoodS G N sc k X W) {x : Str} (h : locB sc x = true) : Loc X.env.scope x ∧ (X.fn x = true ∨ X.env.scope.names.lookup x = some .local) := by
  rw [g.sc]
  rcases loc_of h with z | z
  · exact ⟨.inl z, .inr z⟩
  · exact ⟨.inr z, .inl (g.fn x (by rw [g.sc]; exact z))⟩
theorem GoodS.pass (g : GoodS G N sc k X W) (σ : L2.St) : PassesAt (L2.CX X.prog X.w) X σ (eW W σ) := passAt g.tk σ
/-! ### simple statements -/
theorem ss_expr (he : ∀ σ, SndE G P cl X (eW W σ) σ e m) (hc : noComp e = true) : SndS G P cl wf X W (.Expr e pos) (.expr m) := fun ρ σ S L h H ok en De hp => by
  have hs : swapsWith e none pos.line X.env = pure false := by cases e <;> first | rfl | (cases hc; done)
  refine WS.of (ps_expr peS hs) (he σ ρ S L h H ok en _ ((then_post en hp).imp fun v h1 r L' S' H' vv st ok1 hv => ?_))
  exact r L' S' H' σ st ok1 (en.step st)
theorem ss_ret (he : ∀ σ, SndE G P cl X (eW W σ) σ e m) : SndS G P cl wf X W (.Return (some e) pos) (.ret (some m)) := fun ρ σ S L h H ok en De hp =>
  WS.of (ps_ret peS) (he σ ρ S L h H ok en _ ((then_post en hp).imp fun v h1 r => r))
theorem ss_retN : SndS G P cl wf X W (.Return none pos) (.ret none) := fun ρ σ S L h H ok en De hp => WS.of ps_retN (hp L S H _ Step.refl ok rfl)
theorem ss_pass : SndS G P cl wf X W (.Pass pos) .pass := fun ρ σ S L h H ok en De hp => WS.of ps_pass (rs_now ok en hp)
theorem ss_break : SndS G P cl wf X W (.Break pos) .brk := fun ρ σ S L h H ok en De hp => WS.of ps_break (rs_now ok en hp)
theorem ss_cont : SndS G P cl wf X W (.Continue pos) .cont := fun ρ σ S L h H ok en De hp => WS.of ps_continue (rs_now ok en hp)
theorem ss_if {c : Expr} {a b : List Stmt} {mc : M} {sa sb : List Pe.S} (hc : ∀ σ, SndT G P cl X (eW W σ) σ c mc) (ha : SndSs G P cl wf X W a sa) (hb : SndSs G P cl wf X W b sb) : SndS G P cl wf X W (.If c a b pos) (.ife mc sa sb) := fun ρ σ S L h H ok en De hp => by
  refine WS.of (ps_if ptS pssS pssS) (hc σ ρ S L h H ok en _ ((then_post en hp).imp fun x h1 r L' S' H' st ok1 => ?_))
  cases x with
  | true => exact ha ρ σ S' L' h1 H' ok1 (en.step st) De (PostS.sh st r)
  | false => exact hb ρ σ S' L' h1 H' ok1 (en.step st) De (PostS.sh st r)
theorem sss_nil : SndSs G P cl wf X W [] [] := fun ρ σ S L h H ok en De hp => WSs.nil (rs_now ok en hp)
theorem sss_cons {st : Stmt} {r : List Stmt} {s : Pe.S} {q : List Pe.S} (hs : SndS G P cl wf X W st s) (hr : SndSs G P cl wf X W r q) : SndSs G P cl wf X W (st :: r) (s :: q) := fun ρ σ S L h H ok en De hp => by
  refine WSs.seq (hs ρ σ S L h H ok en _ ?_)
  have hp' : PostS G De W L S H ((evalS P cl wf s ρ h).next fun ρ h => evalSs P cl wf q ρ h) := hp
  revert hp'
  generalize evalS P cl wf s ρ h = o
  intro hp'
  cases o with
  | nx ρ1 h1 => exact fun L' S' H' σ' st' ok' en' => hr ρ1 σ' S' L' h1 H' ok' en' De (PostS.sh st' hp')
  | bk ρ h => exact hp'
  | ct ρ h => exact hp'
  | rt v h => exact hp'
  | exc x ρ h => exact hp'
  | bad => exact hp'
/-! ### a name is set -/
theorem asg_post {i : Nat} {own : Bool} {o : Out Val} {E : XK} (hp : Post G E L S H o fun v h => PostS G De W L S H (match bindV own v h with | some (w, h) => SOut.nx (ρ.set i (some w)) h | none => .bad)) (en : EnvOk G S L ρ σ) :
    (own = true ∧ Post G E L S H o (RV G L S H fun v H1 => De.nx (σ.set i (some v)) H1)) ∨ Post G E L S H o.toW (RW G L S H fun v H1 => De.nx (σ.set i (some v)) H1) := by
  cases o with
  | bad => exact hp.elim
  | exc x h => exact .inr hp
  | ok v h =>
    have hp' : PostS G De W L S H (match bindV own v h with | some (w, h) => SOut.nx (ρ.set i (some w)) h | none => .bad) := hp
    have plain : ∀ {w : Pe.W}, v.arg = some w → PostS G De W L S H (.nx (ρ.set i (some w)) h) → Post G E L S H (Out.ok v h).toW (RW G L S H fun v H1 => De.nx (σ.set i (some v)) H1) := fun {w} e r => by
      show Post G E L S H (match v.arg with | some x => Out.ok x h | none => .bad) _
      rw [e]
      exact fun L' S' H' vv st ok hv => r L' S' H' _ st ok ((en.step st).set hv)
    cases v with
    | w w =>
      refine .inr (plain (w := w) rfl ?_)
      cases own <;> exact hp'
    | new ob =>
      cases own with
      | true =>
        refine .inl ⟨rfl, fun L' S' H' vv st ok hv => ?_⟩
        obtain ⟨a, ho, rfl, h0, hs, hl, ha, hob, lm⟩ := hv
        have okp := ok.push ha hs hl hob (by rw [← ok.len]; exact lm)
        have hn : (L' ++ [a])[h.length]? = some a := by rw [← ok.len, List.getElem?_append_right (Nat.le_refl _), Nat.sub_self]; rfl
        exact hp' (L' ++ [a]) S' H' _ (st.push h0) okp ((en.step (st.push h0)).set (w := .r h.length) ⟨a, hn, rfl⟩)
      | false =>
        have e : bindV false (.new ob) h = (ob.fz.map Pe.W.d).map fun w => (w, h) := rfl
        rw [e] at hp'
        cases q : ob.fz with
        | none => rw [q] at hp'; exact hp'.elim
        | some x =>
          rw [q] at hp'
          exact .inr (plain (w := .d x) (by show ob.fz.map Pe.W.d = _; rw [q]; rfl) hp')
theorem ss_asg {i : Nat} {own : Bool} {x : Str} (g : GoodS G N sc k X W) (hl : locB sc x = true) (hi : ixOf N x = some i) (he : ∀ σ, SndE G P cl X (eW W σ) σ e m) (hs : swapsWith e (some (.Name x p)) pos.line X.env = pure false) : SndS G P cl wf X W (.Assign [.Name x p] e pos) (.asg (.name i) own m) := fun ρ σ S L h H ok en De hp => by
  obtain ⟨l1, l2⟩ := g.loc hl
  refine WS.of (ps_set (by rw [g.hN]; exact g.nd) (by rw [g.hN]; exact ixOf_ok hi) l1 peS hs l2) ?_
  show WE X e σ H fun v H1 => De.nx (σ.set i (some v)) H1
  rcases asg_post (own := own) (then_post en hp) en with ⟨_, q⟩ | q
  · exact he σ ρ S L h H ok en _ q
  · exact (he σ ρ S L h H ok en).toW q
end
end Pe
set_option maxHeartbeats 4000000
namespace Pe
open PySem PySem.Spec PyProof.Rows L2
section
variable {G : Gx} {P : Prog} {cl : Cl} {wf : Nat} {X : Cx} {W : WX} {N : List Str} {sc : Scope} {k : Nat} {De : Ends} {L L1 : List Addr} {S H S1 H1 : Hp} {ρ : Pe.Env} {σ : L2.St} {h : Cells} {e o i : Expr} {m mo mi : M} {pos p p1 p2 p3 : Pos}
/-- a plain value, then .. -/
theorem toD_S (he : SndE G P cl X (eW W σ) σ e m) (ok : Ok G S L h H) (en : EnvOk G S L ρ σ) {f : D → Cells → SOut} {Q : VK} (hp : PostS G De W L S H ((evalE P cl ρ m h).toD.thenS ρ f))
    (hk : ∀ x h1 v L1 S1 H1, Step L S H L1 S1 H1 → Ok G S1 L1 h1 H1 → EnvOk G S1 L1 ρ σ → Rp G S1 x v → PostS G De W L1 S1 H1 (f x h1) → Q v H1) : WE X e σ H Q :=
  (he ρ S L h H ok en).toD ((then_post en hp).imp fun x h1 r L1 S1 H1 v st ok1 rx => hk x h1 v L1 S1 H1 st ok1 (en.step st) rx (PostS.sh st r))
theorem toW_S (he : SndE G P cl X (eW W σ) σ e m) (ok : Ok G S L h H) (en : EnvOk G S L ρ σ) {f : Pe.W → Cells → SOut} {Q : VK} (hp : PostS G De W L S H ((evalE P cl ρ m h).toW.thenS ρ f))
    (hk : ∀ x h1 v L1 S1 H1, Step L S H L1 S1 H1 → Ok G S1 L1 h1 H1 → EnvOk G S1 L1 ρ σ → WIs G S1 L1 x v → PostS G De W L1 S1 H1 (f x h1) → Q v H1) : WE X e σ H Q :=
  (he ρ S L h H ok en).toW ((then_post en hp).imp fun x h1 r L1 S1 H1 v st ok1 rx => hk x h1 v L1 S1 H1 st ok1 (en.step st) rx (PostS.sh st r))
theorem swT {ts : List Expr} {kk : Nat} : swapsWithSole [.Tuple ts kk p] e pos.line X.env = pure false := by cases e <;> rfl
theorem swA {f : Str} : swapsWith e (some (.Attribute o f p)) pos.line X.env = pure false := by cases e <;> rfl
theorem swS : swapsWithSole [.Subscript o i p] e pos.line X.env = pure false := by cases e <;> rfl
theorem noSwap {ts : List Expr} {kk : Nat} (h : noTup e = true) : swappedStores [.Tuple ts kk p] e X.env = pure none := by cases e <;> first | rfl | (cases h; done)
theorem noSwapS : swappedStores [.Subscript o i p] e X.env = pure none := by cases e <;> rfl
theorem noSwapP {x y : Str} {a b : Expr} {kk k2 : Nat} {p4 : Pos} (hn : noParB X.env.scope x y = true) : swappedStores [.Tuple [.Name x p1, .Name y p2] kk p3] (.Tuple [a, b] k2 p4) X.env = pure none := by
  unfold noParB at hn
  rw [Bool.or_eq_true, Bool.not_eq_true', Bool.not_eq_true'] at hn
  unfold swappedStores
  simp only []
  split
  · rfl
  · split
    · rfl
    · rcases hn with hn | hn
      · have e1 : ¬ X.env.kindOf x = some NameKind.local := by
          show ¬ X.env.scope.names.lookup x = some NameKind.local
          simpa using hn
        by_cases hq : X.env.kindOf y = some NameKind.local ∧ p2.line = p1.line <;> simp [List.filterMap_cons, e1, hq, Expr.pos]
      · have e1 : ¬ X.env.kindOf y = some NameKind.local := by
          show ¬ X.env.scope.names.lookup y = some NameKind.local
          simpa using hn
        by_cases hq : X.env.kindOf x = some NameKind.local <;> simp [List.filterMap_cons, e1, hq, Expr.pos]
theorem ss_tup {tg : Expr} {ts : List Nat} (g : GoodS G N sc k X W) (hl : (tgNames tg).all (locB sc) = true) (ht : trTg N tg = some (.tup ts)) (he : ∀ σ, SndE G P cl X (eW W σ) σ e m) {es : List Expr} {kk : Nat} (htg : tg = .Tuple es kk p) (hw : swappedStores [tg] e X.env = pure none) :
    SndS G P cl wf X W (.Assign [tg] e pos) (.asg (.tup ts) false m) := fun ρ σ S L h H ok en De hp => by
  have pg := pg_of (G := G) g.hN g.K g.nd g.calm (fun x hx => g.loc (List.all_eq_true.mp hl x hx)) ht
  subst htg
  refine WS.of (ps_asg peS pg swT hw rfl) ?_
  show WE X e σ H fun v H1 => gOf G (.tup ts) v σ H1 De.nx
  refine toD_S (he σ) ok en hp fun x h1 v L1 S1 H1 st ok1 en1 r hp1 => ?_
  split at hp1
  · rename_i ρ' hb
    exact g_of ok1 (en1.x _) r hb fun σ' en' _ => rs_now ok1 en' hp1
  · exact hp1.elim
/-! ### several names at once -/
def gsOf : List Nat → TGs
  | [] => gNil
  | i :: ts => gCons (gName i) (gsOf ts)
theorem eachN_len {env : PySem.Env} : ∀ {es : List Expr}, (assignEach es env).length = es.length
  | [] => rfl
  | e :: r => by
    cases e <;> first | (show (_ :: assignEach r env).length = _; rw [List.length_cons, List.length_cons, eachN_len]) | (unfold assignEach; simp only [List.length_cons, eachN_len])
theorem pgs_names (g : GoodS G N sc k X W) : ∀ {es : List Expr} {ts : List Nat}, trNs N sc es = some ts → PGs X es (gsOf ts) ∧ (assignEach es X.env).findIdx? (·.1) = none ∧ ts.length = es.length
  | [], ts, h => by cases h; exact ⟨pgs_nil, rfl, rfl⟩
  | e :: r, ts, h => by
    unfold trNs at h
    split at h
    · rename_i e0; cases e0
    · rename_i x p0 r' e0
      cases e0
      split at h
      · rename_i hl
        split at h
        · rename_i i is hi his
          cases h
          obtain ⟨h1, h2, h3⟩ := pgs_names g his
          obtain ⟨l1, l2⟩ := g.loc hl
          refine ⟨pgs_cons (pg_name (by rw [g.hN]; exact g.nd) (by rw [g.hN]; exact ixOf_ok hi) l1 l2) h1, ?_, by rw [List.length_cons, List.length_cons, h3]⟩
          show List.findIdx? (·.1) ((false, _) :: assignEach r X.env) = none
          rw [List.findIdx?_cons, h2]; rfl
        · cases h
      · cases h
    · cases h
theorem g_all {S H : Hp} {L : List Addr} {h : Cells} {K : L2.St → Hp → Prop} (ok : Ok G S L h H) : ∀ {ts : List Nat} {xs : List D} {vs : List V} {ρ ρ' : Pe.Env} {σ : L2.St}, EnvOk G S L ρ σ → Rps G S xs vs → bindL ts xs ρ = some ρ' → (∀ σ', EnvOk G S L ρ' σ' → K σ' H) → gsOf ts vs σ H K
  | [], [], vs, ρ, ρ', σ, en, r, hb, hk => by
    cases hb
    exact ⟨r, hk σ en⟩
  | i :: ts, x :: xs, vs, ρ, ρ', σ, en, r, hb, hk => by
    obtain ⟨v, q, rfl, r1, r2⟩ := r
    exact ⟨v, q, rfl, g_all ok (en.set (w := .d x) r1) r2 hb hk⟩
  | [], _ :: _, _, _, _, _, _, _, hb, _ => by cases hb
  | _ :: _, [], _, _, _, _, _, _, hb, _ => by cases hb
theorem bindL_len : ∀ {ts : List Nat} {xs : List D} {ρ ρ' : Pe.Env}, bindL ts xs ρ = some ρ' → ts.length = xs.length
  | [], [], _, _, _ => rfl
  | i :: ts, x :: xs, _, _, h => by rw [List.length_cons, List.length_cons, bindL_len (show bindL ts xs _ = some _ from h)]
  | [], _ :: _, _, _, h => by cases h
  | _ :: _, [], _, _, h => by cases h
theorem ss_unp {es : List Expr} {ts : List Nat} {kk : Nat} (g : GoodS G N sc k X W) (ht : trNs N sc es = some ts) (he : ∀ σ, SndE G P cl X (eW W σ) σ e m) (hw : noTup e = true) :
    SndS G P cl wf X W (.Assign [.Tuple es kk p] e pos) (.unp ts m) := fun ρ σ S L h H ok en De hp => by
  obtain ⟨h1, h2, h3⟩ := pgs_names g ht
  have pg : PG X (.Tuple es kk p) (fun v σ H Q => gTup X.K es.length (gsOf ts) v σ H Q ∨ gUnl X.K es.length (gsOf ts) v σ H Q) := ⟨fun pins s σ H v u Q I r h => h.elim
    (fun h => (pg_tup g.calm h1 eachN_len h2).run pins s σ H v u Q I r h) fun h => (pg_unl g.calm h1 eachN_len h2).run pins s σ H v u Q I r h⟩
  refine WS.of (ps_asg peS pg swT (noSwap hw) rfl) ?_
  refine toD_S (he σ) ok en hp fun x h1 v L1 S1 H1 st ok1 en1 r hp1 => ?_
  split at hp1
  · rename_i ρ' hb
    unfold bindU at hb
    split at hb
    · rename_i xs
      obtain ⟨a, ys, rfl, ha, rs⟩ := r
      exact .inl ⟨a, ys, rfl, by rw [g.K]; exact TupA.sq (ha.imp (ok1.sub _ _) fun z => z), by rw [rs.len, ← bindL_len hb, h3], g_all ok1 en1 rs hb fun σ' en' => rs_now ok1 en' hp1⟩
    · rename_i xs
      obtain ⟨a, ys, rfl, ha, rs⟩ := r
      exact .inr ⟨a, ys, rfl, by rw [g.K]; exact ext_sq ok1.sub ha, by rw [rs.len, ← bindL_len hb, h3], g_all ok1 en1 rs hb fun σ' en' => rs_now ok1 en' hp1⟩
    · cases hb
  · exact hp1.elim
/-! ### several values, some of which become cells -/
theorem one_ob {β : Type} {E : XK} {R : β → Cells → Prop} (he : SndE G P cl X E σ e m) (ok : Ok G S L h H) (en : EnvOk G S L ρ σ) {own : Bool} {K : Pe.W → Cells → Out β} {Q : VK}
    (hp : Post G E L S H ((evalE P cl ρ m h).bind fun v h => match bindV own v h with | some (w, h) => K w h | none => .bad) R)
    (hk : ∀ w h1 v L1 S1 H1, Step L S H L1 S1 H1 → Ok G S1 L1 h1 H1 → EnvOk G S1 L1 ρ σ → WIs G S1 L1 w v → Post G E L1 S1 H1 (K w h1) R → Q v H1) : WE X e σ H Q := by
  have q := hp.bind
  revert q
  have hE := he ρ S L h H ok en
  revert hE
  generalize evalE P cl ρ m h = oo
  intro hE q
  cases oo with
  | bad => exact q.elim
  | exc x h1 => exact hE _ q
  | ok v h1 =>
    have q' : Post G E L S H (match bindV own v h1 with | some (w, h) => K w h | none => .bad) R := q
    have plain : ∀ {w : Pe.W}, v.arg = some w → Post G E L S H (K w h1) R → WE X e σ H Q := fun {w} ea r => by
      refine hE.toW ?_
      show Post G E L S H (match v.arg with | some x => Out.ok x h1 | none => Out.bad) _
      rw [ea]
      exact fun L' S' H' vv st ok1 hv => hk _ _ _ _ _ _ st ok1 (en.step st) hv (r.sh st)
    cases v with
    | w w => exact plain (w := w) rfl (by cases own <;> exact q')
    | new ob =>
      cases own with
      | true =>
        refine hE _ fun L' S' H' vv st ok1 hv => ?_
        obtain ⟨a, hobj, rfl, h0, hs, hl, ha, hob, lm⟩ := hv
        have okp := ok1.push ha hs hl hob (by rw [← ok1.len]; exact lm)
        have hn : (L' ++ [a])[h1.length]? = some a := by rw [← ok1.len, List.getElem?_append_right (Nat.le_refl _), Nat.sub_self]; rfl
        have stp := st.push h0
        exact hk (.r h1.length) _ _ _ _ _ stp okp (en.step stp) ⟨a, hn, rfl⟩ (Post.sh stp q')
      | false =>
        have e1 : bindV false (.new ob) h1 = (ob.fz.map Pe.W.d).map fun w => (w, h1) := rfl
        rw [e1] at q'
        cases q2 : ob.fz with
        | none => rw [q2] at q'; exact q'.elim
        | some x =>
          rw [q2] at q'
          exact plain (w := .d x) (by show ob.fz.map Pe.W.d = _; rw [q2]; rfl) q'
theorem os_a {β : Type} {E : XK} {R : β → Cells → Prop} : ∀ {es : List Expr} {ms : List M} {os : List Bool}, SndL G P cl X E σ es ms → ∀ {S H : Hp} {L : List Addr} {h : Cells} {K : List Pe.W → Cells → Out β} {Q : List V → Hp → Prop}, Ok G S L h H → EnvOk G S L ρ σ →
    Post G E L S H ((evalOs P cl ρ os ms h).bind K) R →
    (∀ ws h1 vs L1 S1 H1, Step L S H L1 S1 H1 → Ok G S1 L1 h1 H1 → EnvOk G S1 L1 ρ σ → WIss G S1 L1 ws vs → Post G E L1 S1 H1 (K ws h1) R → Q vs H1) → WA X es σ H Q
  | [], ms, os, hl, S, H, L, h, K, Q, ok, en, hp, hk => by
    subst hl
    cases os with
    | nil => exact WA.of pa_nil (hk [] h [] L S H Step.refl ok en rfl hp)
    | cons _ _ => exact False.elim hp
  | e :: es, ms, os, hl, S, H, L, h, K, Q, ok, en, hp, hk => by
    obtain ⟨m, q, rfl, h1, h2, h3⟩ := hl
    cases os with
    | nil => exact False.elim hp
    | cons o os =>
      have hp' : Post G E L S H ((evalE P cl ρ m h).bind fun v h => match bindV o v h with
          | some (w, h) => (evalOs P cl ρ os q h).bind fun xs h => K (w :: xs) h
          | none => .bad) R := by
        have e1 : (evalOs P cl ρ (o :: os) (m :: q) h).bind K = (evalE P cl ρ m h).bind fun v h => match bindV o v h with
          | some (w, h) => (evalOs P cl ρ os q h).bind fun xs h => K (w :: xs) h
          | none => .bad := by
          refine (bind_assoc _ _ _).trans (congrArg _ (funext fun v => funext fun h => ?_))
          cases bindV o v h with
          | none => rfl
          | some p => exact bind_assoc _ _ _
        rw [← e1]; exact hp
      refine WA.of (pa_cons peS paS (star_cons (env := fun _ => X.env) h1)) (one_ob h2 ok en hp' fun x g1 v L1 S1 H1 st ok1 en1 r hp1 => ?_)
      exact os_a h3 ok1 en1 hp1 fun ws g2 vs L2 S2 H2 st2 ok2 en2 r2 hp2 => hk (x :: ws) g2 (v :: vs) L2 S2 H2 (st.trans st2) ok2 en2 ⟨v, vs, rfl, r.mono st2.s st2.pre, r2⟩ hp2
theorem bindWs_len : ∀ {ts : List Nat} {xs : List Pe.W} {ρ ρ' : Pe.Env}, bindWs ts xs ρ = some ρ' → ts.length = xs.length
  | [], [], _, _, _ => rfl
  | i :: ts, x :: xs, _, _, h => by rw [List.length_cons, List.length_cons, bindWs_len (show bindWs ts xs _ = some _ from h)]
  | [], _ :: _, _, _, h => by cases h
  | _ :: _, [], _, _, h => by cases h
theorem g_allW {S H : Hp} {L : List Addr} {h : Cells} {K : L2.St → Hp → Prop} (ok : Ok G S L h H) : ∀ {ts : List Nat} {xs : List Pe.W} {vs : List V} {ρ ρ' : Pe.Env} {σ : L2.St}, EnvOk G S L ρ σ → WIss G S L xs vs → bindWs ts xs ρ = some ρ' → (∀ σ', EnvOk G S L ρ' σ' → K σ' H) → gsOf ts vs σ H K
  | [], [], vs, ρ, ρ', σ, en, r, hb, hk => by
    cases hb
    exact ⟨r, hk σ en⟩
  | i :: ts, x :: xs, vs, ρ, ρ', σ, en, r, hb, hk => by
    obtain ⟨v, q, rfl, r1, r2⟩ := r
    exact ⟨v, q, rfl, g_allW ok (en.set (w := x) r1) r2 hb hk⟩
  | [], _ :: _, _, _, _, _, _, _, hb, _ => by cases hb
  | _ :: _, [], _, _, _, _, _, _, hb, _ => by cases hb
theorem ss_parL {es xs : List Expr} {ts : List Nat} {ms : List M} {os : List Bool} {kk : Nat} {lp : Pos} (g : GoodS G N sc k X W) (ht : trNs N sc es = some ts) (hl : ∀ σ, SndL G P cl X (eW W σ) σ xs ms) (h20 : xs.length < 20) (hle : xs.length = es.length) :
    SndS G P cl wf X W (.Assign [.Tuple es kk p] (.List xs lp) pos) (.parO ts os ms) := fun ρ σ S L h H ok en De hp => by
  obtain ⟨h1, h2, h3⟩ := pgs_names g ht
  have pg : PG X (.Tuple es kk p) (gUnl X.K es.length (gsOf ts)) := pg_unl g.calm h1 eachN_len h2
  refine WS.of (ps_asg peS pg swT (noSwap rfl) rfl) ?_
  refine WE.of (pe_lst paS) ?_
  show WA X xs σ H fun vs H1 => vs.length ≤ sizeLine ∧ ∀ p, H1 p = none → gUnl X.K es.length (gsOf ts) (.ref p) σ (upd H1 p (.lst vs)) De.nx
  have hq := then_post en hp
  have hq' : Post G (eW W σ) L S H ((evalOs P cl ρ os ms h).bind fun ws h => Out.ok ws h) fun ws h => PostS G De W L S H (match bindWs ts ws ρ with | some ρ => SOut.nx ρ h | none => .bad) := by
    have e1 : (evalOs P cl ρ os ms h).bind (fun ws h => Out.ok ws h) = evalOs P cl ρ os ms h := by cases evalOs P cl ρ os ms h <;> rfl
    rw [e1]; exact hq
  refine os_a (hl σ) ok en hq' fun ws h1 vs L1 S1 H1 st ok1 en1 r hp1 => ?_
  have hp2 : PostS G De W L S H (match bindWs ts ws ρ with | some ρ => SOut.nx ρ h1 | none => .bad) := hp1
  split at hp2
  · rename_i ρ' hb
    have lv : vs.length = es.length := by rw [r.len, ← bindWs_len hb, h3]
    refine ⟨by rw [lv, ← hle]; exact Nat.le_trans (Nat.le_of_lt h20) (by decide), fun q hn => ?_⟩
    have o2 := ok1.apart (o := .lst vs) hn
    have s2 := st.trans (Step.apart (o := .lst vs) hn)
    exact ⟨q, vs, rfl, SqL.of upd_same, lv, g_allW o2 en1 r hb fun σ' en' => hp2 L1 S1 _ σ' s2 o2 en'⟩
  · exact hp2.elim
theorem ss_parT {es xs : List Expr} {ts : List Nat} {ms : List M} {os : List Bool} {kk : Nat} {lp : Pos} {kx : Nat} (g : GoodS G N sc k X W) (ht : trNs N sc es = some ts) (hl : ∀ σ, SndL G P cl X (eW W σ) σ xs ms) (h20 : xs.length < 20) (hle : xs.length = es.length) (hw : swappedStores [.Tuple es kk p] (.Tuple xs kx lp) X.env = pure none) :
    SndS G P cl wf X W (.Assign [.Tuple es kk p] (.Tuple xs kx lp) pos) (.parO ts os ms) := fun ρ σ S L h H ok en De hp => by
  obtain ⟨h1, h2, h3⟩ := pgs_names g ht
  have pg : PG X (.Tuple es kk p) (gTup X.K es.length (gsOf ts)) := pg_tup g.calm h1 eachN_len h2
  refine WS.of (ps_asg peS pg swT hw rfl) ?_
  refine WE.of (pe_tup paS) ?_
  show WA X xs σ H fun vs H1 => vs.length ≤ sizeLine ∧ ∀ p, H1 p = none → gTup X.K es.length (gsOf ts) (.ref p) σ (upd H1 p (.tup vs)) De.nx
  have hq := then_post en hp
  have hq' : Post G (eW W σ) L S H ((evalOs P cl ρ os ms h).bind fun ws h => Out.ok ws h) fun ws h => PostS G De W L S H (match bindWs ts ws ρ with | some ρ => SOut.nx ρ h | none => .bad) := by
    have e1 : (evalOs P cl ρ os ms h).bind (fun ws h => Out.ok ws h) = evalOs P cl ρ os ms h := by cases evalOs P cl ρ os ms h <;> rfl
    rw [e1]; exact hq
  refine os_a (hl σ) ok en hq' fun ws h1 vs L1 S1 H1 st ok1 en1 r hp1 => ?_
  have hp2 : PostS G De W L S H (match bindWs ts ws ρ with | some ρ => SOut.nx ρ h1 | none => .bad) := hp1
  split at hp2
  · rename_i ρ' hb
    have lv : vs.length = es.length := by rw [r.len, ← bindWs_len hb, h3]
    refine ⟨by rw [lv, ← hle]; exact Nat.le_trans (Nat.le_of_lt h20) (by decide), fun q hn => ?_⟩
    have o2 := ok1.apart (o := .tup vs) hn
    have s2 := st.trans (Step.apart (o := .tup vs) hn)
    exact ⟨q, vs, rfl, SqT.of upd_same, lv, g_allW o2 en1 r hb fun σ' en' => hp2 L1 S1 _ σ' s2 o2 en'⟩
  · exact hp2.elim
/-! ### fields, items -/
theorem aput_rp {S : Hp} {L : List Addr} {y : Str} {w : Pe.W} {v : V} (r : WIs G S L w v) : ∀ {fs : List (Str × Pe.W)} {vs : List (Str × V)}, Rpw G S L fs vs → Rpw G S L (aput fs y w) (putF y v vs)
  | [], vs, h => by rw [show vs = [] from h]; exact ⟨v, [], rfl, r, rfl⟩
  | (z, u) :: fs, vs, h => by
    obtain ⟨v', q, rfl, h2, h3⟩ : ∃ v q, vs = (z, v) :: q ∧ WIs G S L u v ∧ Rpw G S L fs q := h
    have ih := aput_rp (y := y) r h3
    unfold aput putF
    by_cases e : z = y
    · rw [if_pos e, if_pos e]; exact ⟨v, q, rfl, r, h3⟩
    · rw [if_neg e, if_neg e]; exact ⟨v', _, rfl, h2, ih⟩
theorem rpw_len {S : Hp} {L : List Addr} : ∀ {fs : List (Str × Pe.W)} {vs : List (Str × V)}, Rpw G S L fs vs → vs.length = fs.length
  | [], vs, h => by rw [show vs = [] from h]; rfl
  | (z, u) :: fs, vs, h => by
    obtain ⟨v', q, rfl, h2, h3⟩ : ∃ v q, vs = (z, v) :: q ∧ WIs G S L u v ∧ Rpw G S L fs q := h
    rw [List.length_cons, List.length_cons, rpw_len h3]
theorem aput_lim {n : Nat} {c : Str} {y : Str} {w : Pe.W} (hw : w.lim n = true) : ∀ {fs : List (Str × Pe.W)}, Ob.lim n (.ins c fs) = true → Ob.lim n (.ins c (aput fs y w)) = true
  | [], _ => by show (w.lim n && true) = true; rw [hw]; rfl
  | (z, u) :: fs, h => by
    have h' : u.lim n = true ∧ Ob.lim n (.ins c fs) = true := Bool.and_eq_true_iff.mp h
    unfold aput
    by_cases e : z = y
    · rw [if_pos e]; exact Bool.and_eq_true_iff.mpr ⟨hw, h'.2⟩
    · rw [if_neg e]; exact Bool.and_eq_true_iff.mpr ⟨h'.1, aput_lim hw h'.2⟩
/-- what is to be shown once o is known -/
theorem setA_end {c : Str} {kd : CDef} {f : Str} {n : Nat} {fs : List (Str × Pe.W)} {w : Pe.W} {x v : V} (g : GoodS G N sc k X W) {kk : Nat} (cf : Cfs G P cl kk) (ok : Ok G S L h H) (en : EnvOk G S L ρ σ) (rx : WIs G S L (.r n) x) (rv : WIs G S L w v) (hc : h[n]? = some ⟨.ins c fs, false⟩) (hk : P.cls c = some kd)
    (hf : f ∈ kd.fields ∧ fs.length < 1000 ∧ w.lim n = true) (hp : RS G L S H De.nx ρ (h.set n ⟨.ins c (aput fs f w), false⟩)) :
    ∃ a C dx fs, x = .ref a ∧ H a = some (.ins C dx fs) ∧ Cls X.K C ∧ NoAttr X.K C f ∧ fs.length < 1000 ∧ De.nx σ (upd H a (.ins C dx (putF f v fs))) := by
  obtain ⟨a, hn, rfl⟩ := rx
  obtain ⟨ho, ob, q⟩ := (ok.cell n a _ hn hc).ob rfl
  have q : H a = some ho := by simpa using q
  have ob' := ob
  obtain ⟨dx, vs, rfl, rs⟩ := ob
  have cF := cf.cls c kd hk
  refine ⟨a, _, dx, vs, rfl, q, by rw [g.K]; exact cF.ct.cl, by rw [g.K]; exact cF.noat f hf.1, by rw [rpw_len rs]; exact hf.2.1, ?_⟩
  have lm := ok.lim n _ hc
  exact hp L S _ σ (Step.put hn q ob'.kind.2) (ok.put hn hc rfl ⟨dx, _, rfl, aput_rp rv rs⟩ (aput_lim hf.2.2 lm) rfl) en
theorem ss_setA {own : Bool} {f : Str} (g : GoodS G N sc (k + 1) X W) (cf : Cfs G P cl k) (ho : ∀ σ, SndE G P cl X (eW W σ) σ o mo) (he : ∀ σ, SndE G P cl X (eW W σ) σ e m) : SndS G P cl wf X W (.Assign [.Attribute o f p] e pos) (.setA mo f own m) := fun ρ σ S L h H ok en De hp => by
  refine WS.of (ps_fld peS peS swA) ?_
  let Qn : V → Hp → Prop := fun y H1 => WE X o σ H1 fun x H2 => ∃ a C dx fs, x = .ref a ∧ H2 a = some (.ins C dx fs) ∧ Cls X.K C ∧ NoAttr X.K C f ∧ fs.length < 1000 ∧ De.nx σ (upd H2 a (.ins C dx (putF f y fs)))
  show WE X e σ H Qn
  let tail : Pe.W → Cells → SOut := fun w h => (evalE P cl ρ mo h).thenS ρ fun o h => match o with
    | .w (.r n) => match h[n]? with
      | some ⟨.ins c fs, false⟩ => match P.cls c with
        | some k => if f ∈ k.fields ∧ fs.length < 1000 ∧ w.lim n = true then .nx ρ (h.set n ⟨.ins c (aput fs f w), false⟩) else .bad
        | none => .bad
      | _ => .bad
    | _ => .bad
  -- the object is asked for
  have last : ∀ {w : Pe.W} {v : V} {h1 : Cells} {L1 : List Addr} {S1 H1 : Hp}, Ok G S1 L1 h1 H1 → EnvOk G S1 L1 ρ σ → WIs G S1 L1 w v → PostS G De W L1 S1 H1 (tail w h1) → Qn v H1 := fun {w v h1 L1 S1 H1} ok1 en1 rw hp1 => by
    refine ho σ ρ S1 L1 h1 H1 ok1 en1 _ ((then_post en1 hp1).imp fun vo h2 r L2 S2 H2 x st2 ok2 hx => ?_)
    have r2 := PostS.sh st2 r
    split at r2
    · rename_i n
      split at r2
      · rename_i c fs hc
        split at r2
        · rename_i kd hk
          split at r2
          · rename_i hf
            exact setA_end g cf ok2 (en1.step st2) hx (rw.mono st2.s st2.pre) hc hk hf r2
          · exact r2.elim
        · exact r2.elim
      · exact r2.elim
    · exact r2.elim
  have hp' : PostS G De W L S H ((evalE P cl ρ m h).thenS ρ fun v h => match bindV own v h with | some (w, h) => tail w h | none => .bad) := hp
  have q := then_post en hp'
  revert q
  have hE := he σ ρ S L h H ok en
  revert hE
  generalize evalE P cl ρ m h = oo
  intro hE q
  cases oo with
  | bad => exact q.elim
  | exc x h1 => exact hE _ q
  | ok v h1 =>
    have q' : PostS G De W L S H (match bindV own v h1 with | some (w, h) => tail w h | none => .bad) := q
    have plain : ∀ {w : Pe.W}, v.arg = some w → PostS G De W L S H (tail w h1) → WE X e σ H Qn := fun {w} ea r => by
      refine hE.toW ?_
      show Post G (eW W σ) L S H (match v.arg with | some x => Out.ok x h1 | none => Out.bad) _
      rw [ea]
      exact fun L' S' H' vv st ok1 hv => last ok1 (en.step st) hv (PostS.sh st r)
    cases v with
    | w w => exact plain (w := w) rfl (by cases own <;> exact q')
    | new ob =>
      cases own with
      | true =>
        refine hE _ fun L' S' H' vv st ok1 hv => ?_
        obtain ⟨a, hobj, rfl, h0, hs, hl, ha, hob, lm⟩ := hv
        have okp := ok1.push ha hs hl hob (by rw [← ok1.len]; exact lm)
        have hn : (L' ++ [a])[h1.length]? = some a := by rw [← ok1.len, List.getElem?_append_right (Nat.le_refl _), Nat.sub_self]; rfl
        have stp := st.push h0
        exact last okp (en.step stp) (w := .r h1.length) ⟨a, hn, rfl⟩ (PostS.sh stp q')
      | false =>
        have e1 : bindV false (.new ob) h1 = (ob.fz.map Pe.W.d).map fun w => (w, h1) := rfl
        rw [e1] at q'
        cases q2 : ob.fz with
        | none => rw [q2] at q'; exact q'.elim
        | some x =>
          rw [q2] at q'
          exact plain (w := .d x) (by show ob.fz.map Pe.W.d = _; rw [q2]; rfl) q'
end
end Pe
set_option maxHeartbeats 4000000
namespace Pe
open PySem PySem.Spec PyProof.Rows L2
section
variable {G : Gx} {P : Prog} {cl : Cl} {wf : Nat} {X : Cx} {W : WX} {N : List Str} {sc : Scope} {k : Nat} {De : Ends} {L L1 : List Addr} {S H S1 H1 : Hp} {ρ : Pe.Env} {σ : L2.St} {h : Cells} {e o i tg iter c : Expr} {m mo mi mc : M} {pos p p1 p2 p3 : Pos}
/-! ### items -/
theorem pset_or {t t' : TSet} (a : PSet X t) (b : PSet X t') : PSet X (fun o i v H Q => t o i v H Q ∨ t' o i v H Q) := by
  intro pins s σ H o i v ov iv u Q I ro ri rv h
  rcases h with h | h
  · exact a pins s σ H o i v ov iv u Q I ro ri rv h
  · exact b pins s σ H o i v ov iv u Q I ro ri rv h
theorem pget_or {t t' : V → V → Hp → VK → Prop} (a : PGet X t) (b : PGet X t') : PGet X (fun o i H Q => t o i H Q ∨ t' o i H Q) := by
  intro pins s σ H o i ov iv Q I ro ri h
  rcases h with h | h
  · exact a pins s σ H o i ov iv Q I ro ri h
  · exact b pins s σ H o i ov iv Q I ro ri h
/-- what a store into w does -/
theorem put_rel (g : GoodS G N sc k X W) {w : Pe.W} {x d : D} {ov iv v : V} (ok : Ok G S L h H) (en : EnvOk G S L ρ σ) (ro : WIs G S L w ov) (ri : Rp G S d iv) (rv : Rp G S x v) (hp : PostS G De W L S H ((putM w d x h).thenS ρ fun _ h => .nx ρ h)) :
    rSetL ov iv v H (De.nx σ) ∨ ∃ a l kk, ov = .ref a ∧ H a = some (dicO X.w a l) ∧ DicW X.K H l ∧ KIs X.K H kk iv ∧ kk.depth ≤ 8 ∧ l.length < sizeLine ∧ De.nx σ (upd H a (dicO X.w a (lput l kk iv v))) := by
  unfold putM at hp
  split at hp
  · rename_i n
    split at hp
    · rename_i ob hc
      split at hp
      · rename_i ob' e
        have hp' : RS G L S H De.nx ρ (h.set n ⟨ob', false⟩) := hp
        obtain ⟨a, hn, rfl⟩ := ro
        unfold putO at e
        split at e
        · rename_i xs j
          split at e
          · rename_i jj hj
            cases e
            obtain ⟨ho, ob, q⟩ := (ok.cell n a _ hn hc).ob rfl
            have q : H a = some ho := by simpa using q
            have ob2 := ob
            obtain ⟨ys, rfl, rs⟩ := ob
            exact .inl ⟨a, ys, j, jj, rfl, ri, q, by rw [rs.len]; exact hj, hp' L S _ σ (Step.put hn q ob2.kind.2) (ok.put hn hc rfl ⟨_, rfl, rs.set jj rv⟩ rfl rfl) en⟩
          · cases e
        · rename_i kvs kd hnd
          split at e
          · rename_i kk hkk
            split at e
            · rename_i hz
              cases e
              obtain ⟨ho, ob, q⟩ := (ok.cell n a _ hn hc).ob rfl
              have q : H a = some ho := by simpa using q
              have ob2 := ob
              obtain ⟨l, rfl, rs, nd⟩ := ob
              refine .inr ⟨a, l, kk, rfl, by rw [g.w]; exact q, by rw [g.K]; exact (rs.dicw nd).ext fun b xs e => ok.sub _ _ e, by rw [g.K]; exact KIs.ext (fun b xs e => ok.sub _ _ e) _ _ (Rp.key _ _ _ ri (hk_key hkk).1), (hk_key hkk).2, by rw [rs.len]; exact hz, ?_⟩
              rw [g.w]
              exact hp' L S _ σ (Step.put hn q ob2.kind.2) (ok.put hn hc rfl ⟨_, rfl, Rpk.put hkk ri rv rs nd, rpk_nd (S := S) (kvs := []) (kd := .non) nd⟩ rfl rfl) en
            · cases e
          · cases e
        · cases e
      · exact hp.elim
    · exact hp.elim
  · exact hp.elim
theorem ss_setI (g : GoodS G N sc k X W) (hs : notSlice i = true) (ho : ∀ σ, SndE G P cl X (eW W σ) σ o mo) (hi : ∀ σ, SndE G P cl X (eW W σ) σ i mi) (he : ∀ σ, SndE G P cl X (eW W σ) σ e m) : SndS G P cl wf X W (.Assign [.Subscript o i p] e pos) (.setI mo mi m) := fun ρ σ S L h H ok en De hp => by
  refine WS.of (ps_asg peS (pg_sub peS peS (pset_or set_list (set_dic (by have := g.room.un; omega))) (fun v => by cases i <;> first | rfl | (cases hs; done))) swS noSwapS rfl) ?_
  show WE X e σ H fun v H1 => WE X o σ H1 fun ov H2 => WE X i σ H2 fun iv H3 => _ ∨ _
  refine toD_S (he σ) ok en hp fun x h1 v L1 S1 H1 st1 ok1 en1 rv hp1 => toW_S (ho σ) ok1 en1 hp1 fun w h2 ov L2 S2 H2 st2 ok2 en2 ro hp2 => toD_S (hi σ) ok2 en2 hp2 fun d h3 iv L3 S3 H3 st3 ok3 en3 ri hp3 => ?_
  exact put_rel g ok3 en3 (ro.mono st3.s st3.pre) ri (Rp.ext (st2.s.trans st3.s) _ _ rv) hp3
theorem aug_rel {op : Operator} (hop : op = .Add ∨ op = .Sub) : ∃ f : Int → Int → Int, PIp X op (ipI f) ∧ ∀ x y z, augD op x y = some z → ∃ a b, x = .int a ∧ y = .int b ∧ z = .int (f a b) := by
  rcases hop with rfl | rfl
  · refine ⟨fun i j => i + j, ip_add, fun x y z e => ?_⟩
    cases x <;> cases y <;> first | (cases e; done) | skip
    cases e; exact ⟨_, _, rfl, rfl, rfl⟩
  · refine ⟨fun i j => i - j, ip_sub, fun x y z e => ?_⟩
    cases x <;> cases y <;> first | (cases e; done) | skip
    cases e; exact ⟨_, _, rfl, rfl, rfl⟩
theorem ss_augN {j : Nat} {x : Str} {op : Operator} (g : GoodS G N sc k X W) (hl : locB sc x = true) (hj : ixOf N x = some j) (hop : op = .Add ∨ op = .Sub) (he : ∀ σ, SndE G P cl X (eW W σ) σ e m) : SndS G P cl wf X W (.AugAssign (.Name x p) op e pos) (.augN j op m) := fun ρ σ S L h H ok en De hp => by
  obtain ⟨l1, l2⟩ := g.loc hl
  obtain ⟨f, hpi, hf⟩ := aug_rel (X := X) hop
  have hp' : PostS G De W L S H (match ρ[j]? with
    | some (some (.d x)) => (evalE P cl ρ m h).toD.thenS ρ fun y h => match augD op x y with
      | some z => .nx (ρ.set j (some (.d z))) h
      | none => .bad
    | _ => .bad) := hp
  split at hp'
  · rename_i x0 hx0
    obtain ⟨v0, e1, r0⟩ := en.2 j _ hx0
    refine WS.of (ps_aug (by rw [g.hN]; exact g.nd) (by rw [g.hN]; exact ixOf_ok hj) l1 peS hpi l2) ⟨v0, e1, ?_⟩
    refine toD_S (he σ) ok en hp' fun y h1 v L1 S1 H1 st ok1 en1 r hp1 => ?_
    split at hp1
    · rename_i z hz
      obtain ⟨a, b, rfl, rfl, rfl⟩ := hf _ _ _ hz
      exact ⟨a, b, r0, r, rs_now ok1 (EnvOk.set (w := .d (.int (f a b))) en1 rfl) hp1⟩
    · exact hp1.elim
  · exact hp'.elim
/-! ### loops -/
theorem keep_ok {L' : List Addr} {n : Nat} (en : EnvOk G S L' ρ σ) : EnvOk G S (L'.take n) (Env.keep n ρ) σ := by
  refine ⟨by unfold Env.keep; rw [List.length_map]; exact en.1, fun j w q => ?_⟩
  unfold Env.keep at q
  rw [List.getElem?_map] at q
  obtain ⟨u, hu, e⟩ := Option.map_eq_some_iff.mp q
  cases u with
  | none => cases e
  | some u =>
    obtain ⟨v, h1, h2⟩ := en.2 j u hu
    cases u with
    | d x => cases e; exact ⟨v, h1, h2⟩
    | r mm =>
      have e' : (if mm < n then some (Pe.W.r mm) else none) = some w := e
      split at e'
      · rename_i hm
        cases e'
        obtain ⟨a, h3, h4⟩ := h2
        exact ⟨v, h1, a, by rw [List.getElem?_take_of_lt hm]; exact h3, h4⟩
      · cases e'
theorem take_eq {L' : List Addr} {S' H' : Hp} (st : Step L1 S1 H1 L' S' H') : L'.take L1.length = L1 := by
  obtain ⟨M, e, _⟩ := st.l
  rw [e, List.take_left]
/-- a turn of a loop, by what the body does -/
def turnM (n0 : Nat) (next : Pe.Env → Cells → SOut) (o : SOut) : SOut := match o with
  | .nx ρ h => next (Env.keep n0 ρ) (h.take n0)
  | .ct ρ h => next (Env.keep n0 ρ) (h.take n0)
  | .bk ρ h => .nx (Env.keep n0 ρ) (h.take n0)
  | o => o
theorem turn_post {o : SOut} {next : Pe.Env → Cells → SOut} {K : L2.St → Hp → Prop} {L2' : List Addr} {S2 H2 : Hp} (st : Step L S H L1 S1 H1) (st2 : Step L1 S1 H1 L2' S2 H2) (hp : PostS G De W L S H (turnM L1.length next o))
    (hk : ∀ ρ' h' S' H' σ', Step L1 S1 H1 L1 S' H' → Ok G S' L1 h' H' → EnvOk G S' L1 ρ' σ' → PostS G De W L S H (next ρ' h') → K σ' H') : PostS G { De with nx := K, ct := K, bk := De.nx } W L2' S2 H2 o := by
  have back : ∀ {L' : List Addr} {S' H' : Hp} {ρ' : Pe.Env} {h' : Cells} {σ' : L2.St}, Step L2' S2 H2 L' S' H' → Ok G S' L' h' H' → EnvOk G S' L' ρ' σ' → Step L1 S1 H1 L1 S' H' ∧ Ok G S' L1 (h'.take L1.length) H' ∧ EnvOk G S' L1 (Env.keep L1.length ρ') σ' := fun {L' S' H' ρ' h' σ'} s ok en => by
    have tot := st2.trans s
    have e := take_eq tot
    refine ⟨?_, ?_, ?_⟩
    · have := tot.cut; rw [e] at this; exact this
    · have := ok.cut L1.length; rw [e] at this; exact this
    · have := keep_ok (n := L1.length) en; rw [e] at this; exact this
  cases o with
  | nx ρ h => exact fun L' S' H' σ' s ok en => let ⟨a, b, c⟩ := back s ok en; hk _ _ _ _ _ a b c hp
  | ct ρ h => exact fun L' S' H' σ' s ok en => let ⟨a, b, c⟩ := back s ok en; hk _ _ _ _ _ a b c hp
  | bk ρ h => exact fun L' S' H' σ' s ok en => let ⟨a, b, c⟩ := back s ok en; hp _ _ _ _ (st.trans a) b c
  | rt v h => exact RV.shift (st.trans st2) hp
  | exc x ρ h => exact fun L' S' H' σ' cls d s ok en hx => hp L' S' H' σ' cls d ((st.trans st2).trans s) ok en hx
  | bad => exact hp
theorem ss_for {t : Tg} {w : Wk} {body : List Stmt} {sb : List Pe.S} (g : GoodS G N sc k X W) (hl : (tgNames tg).all (locB sc) = true) (ht : trTg N tg = some t) (hi : ∀ σ, SndI G P cl X (eW W σ) σ tg iter w) (hb : SndSs G P cl wf X W body sb) (hs : ∀ es k p, iter ≠ .Set es k p) : SndS G P cl wf X W (.For tg iter body [] pos) (.forr t w sb) := fun ρ σ S L h H ok en De hp => by
  have pg := pg_of (G := G) g.hN g.K g.nd g.calm (fun x hx => g.loc (List.all_eq_true.mp hl x hx)) ht
  let f : D → Pe.Env → Cells → SOut := fun x ρ h => match bindT t x ρ with
    | some ρ => evalSs P cl wf sb ρ h
    | none => .bad
  have hp' : PostS G De W L S H ((evalI P cl ρ w h).thenS ρ fun xs h => forGo h.length f xs ρ h) := hp
  refine WS.of (ps_for g.own g.calm piS pg pssS (fold_of hs _)) ?_
  refine hi σ ρ S L h H ok en _ ((then_post en hp').imp fun xs h1 q L1 S1 H1 J st1 ok1 yl => ?_)
  rw [← ok1.len] at q
  let Iv : Nat → L2.St → Hp → Prop := fun i σ' H' => ∃ S' h' ρ', Step L1 S1 H1 L1 S' H' ∧ Ok G S' L1 h' H' ∧ EnvOk G S' L1 ρ' σ' ∧ PostS G De W L S H (forGo L1.length f (xs.drop i) ρ' h')
  refine ⟨fun i m σ' H' => m = xs.length - i ∧ i ≤ xs.length ∧ Iv i σ' H', ⟨xs.length, rfl, Nat.zero_le _, S1, h1, ρ, Step.refl, ok1, en.step st1, q⟩, ?_⟩
  rintro i m σ' H' ⟨rfl, hle, S', h', ρ', st', ok', en', hq⟩
  obtain ⟨yl1, yl2⟩ := yl i S' L1 h' H' st'.s ok'
  by_cases hlt : i < xs.length
  · obtain ⟨go, yd⟩ := yl1 _ (List.getElem?_eq_getElem hlt)
    refine .inr ⟨go, Iv (i + 1), fun σ2 H2 p => ⟨xs.length - (i + 1), by omega, rfl, hlt, p⟩, fun v H2 hy => ?_⟩
    obtain ⟨S2, st2, ok2, rv⟩ := yd v H2 hy
    have hdrop : xs.drop i = xs[i] :: xs.drop (i + 1) := List.drop_eq_getElem_cons hlt
    rw [hdrop] at hq
    have hq2 : PostS G De W L S H (turnM L1.length (fun ρ h => forGo L1.length f (xs.drop (i + 1)) ρ h) (f xs[i] ρ' h')) := by
      have e : forGo L1.length f (xs[i] :: xs.drop (i + 1)) ρ' h' = turnM L1.length (fun ρ h => forGo L1.length f (xs.drop (i + 1)) ρ h) (f xs[i] ρ' h') := by
        show (match f xs[i] ρ' h' with | .nx ρ h => _ | .ct ρ h => _ | .bk ρ h => _ | o => o) = _
        unfold turnM
        cases f xs[i] ρ' h' <;> rfl
      rw [← e]; exact hq
    have st02 := st'.trans st2
    cases hbt : bindT t xs[i] ρ' with
    | none =>
      have e : f xs[i] ρ' h' = .bad := by show (match bindT t xs[i] ρ' with | some ρ => evalSs P cl wf sb ρ h' | none => .bad) = _; rw [hbt]
      rw [e] at hq2
      exact hq2.elim
    | some ρ2 =>
      have e : f xs[i] ρ' h' = evalSs P cl wf sb ρ2 h' := by show (match bindT t xs[i] ρ' with | some ρ => evalSs P cl wf sb ρ h' | none => .bad) = _; rw [hbt]
      rw [e] at hq2
      refine g_of ok2 ((en'.step st2).x _) rv hbt fun σ3 en3 _ => hb ρ2 σ3 S2 L1 h' H2 ok2 en3 _ ?_
      exact turn_post (K := Iv (i + 1)) st1 st02 hq2 fun ρ4 h4 S4 H4 σ4 a b c d => ⟨S4, h4, ρ4, a, b, c, d⟩
  · have ei : i = xs.length := by omega
    subst ei
    refine .inl ⟨yl2 (Nat.le_refl _), ?_⟩
    rw [List.drop_length] at hq
    have hq2 : RS G L S H De.nx ρ' h' := hq
    exact hq2 L1 S' H' σ' (st1.trans st') ok' en'
theorem ss_while {body : List Stmt} {sb : List Pe.S} (g : GoodS G N sc k X W) (hc : ∀ σ, SndT G P cl X (eW W σ) σ c mc) (hb : SndSs G P cl wf X W body sb) : SndS G P cl wf X W (.While c body [] pos) (.whil mc sb) := fun ρ σ S L h H ok en De hp => by
  let cf : Pe.Env → Cells → Out Bool := fun ρ h => (evalE P cl ρ mc h).toB
  let f : Pe.Env → Cells → SOut := fun ρ h => evalSs P cl wf sb ρ h
  have hp' : PostS G De W L S H (whileGo h.length cf f wf ρ h) := hp
  rw [← ok.len] at hp'
  refine WS.of (ps_while g.own ptS pssS) ?_
  let Iv : Nat → L2.St → Hp → Prop := fun n σ' H' => ∃ S' h' ρ', Ok G S' L h' H' ∧ EnvOk G S' L ρ' σ' ∧ PostS G De W L S' H' (whileGo L.length cf f n ρ' h')
  refine ⟨Iv, ⟨wf, S, h, ρ, ok, en, hp'⟩, ?_⟩
  rintro n σ' H' ⟨S', h', ρ', ok', en', hq⟩
  cases n with
  | zero => exact hq.elim
  | succ n =>
    have hq' : PostS G De W L S' H' ((cf ρ' h').thenS ρ' fun b h => if b = true then turnM L.length (fun ρ h => whileGo L.length cf f n ρ h) (f ρ' h) else .nx ρ' h) := by
      have e : whileGo L.length cf f (n + 1) ρ' h' = (cf ρ' h').thenS ρ' fun b h => if b = true then turnM L.length (fun ρ h => whileGo L.length cf f n ρ h) (f ρ' h) else .nx ρ' h := by
        show (cf ρ' h').thenS ρ' _ = _
        have e2 : ∀ (u : Out Bool) (f1 f2 : Bool → Cells → SOut), (∀ b h, f1 b h = f2 b h) → u.thenS ρ' f1 = u.thenS ρ' f2 := fun u f1 f2 q => by
          cases u with
          | ok a h => exact q a h
          | exc x h => rfl
          | bad => rfl
        refine e2 _ _ _ fun b h => ?_
        cases b
        · rfl
        · show (match f ρ' h with | .nx ρ h => _ | .ct ρ h => _ | .bk ρ h => _ | o => o) = turnM _ _ _
          unfold turnM
          cases f ρ' h <;> rfl
      rw [← e]; exact hq
    refine hc σ' ρ' S' L h' H' ok' en' _ ((then_post en' hq').imp fun b h1 r L1 S1 H1 st1 ok1 => ?_)
    have en1 := en'.step st1
    show (if b = true then _ else _)
    split
    · rename_i hb1
      rw [if_pos hb1] at r
      refine ⟨Iv n, fun σ2 H2 p => ⟨n, Nat.lt_succ_self n, p⟩, hb ρ' σ' S1 L1 h1 H1 ok1 en1 _ ?_⟩
      exact turn_post (K := Iv n) Step.refl st1 r fun ρ4 h4 S4 H4 σ4 a b c d => ⟨S4, h4, ρ4, b, c, PostS.sh a d⟩
    · rename_i hb1
      rw [if_neg hb1] at r
      exact r L1 S1 H1 σ' st1 ok1 en1
end
end Pe
set_option maxHeartbeats 4000000
namespace Pe
open PySem PySem.Spec PyProof.Rows L2
section
variable {G : Gx} {P : Prog} {cl : Cl} {wf : Nat} {k : Nat}
/-- a comprehension that is stored as it is made -/
def SndU (G : Gx) (P : Prog) (cl : Cl) (X : Cx) (E : XK) (σ : L2.St) (e : Expr) (m : M) : Prop := ∀ {i : Nat} {y : Str} {py spos : Pos} {De : Ends} (ρ : Pe.Env) (S : Hp) (L : List Addr) (h : Cells) (H : Hp), Ok G S L h H → EnvOk G S L ρ σ → X.N[i]? = some y → X.env.scope.names.lookup y = some .local →
  swapsWith e (some (.Name y py)) spos.line X.env = pure true → Post G E L S H (evalE P cl ρ m h) (RV G L S H fun v H1 => De.nx (σ.set i (some v)) H1) → WS X (.Assign [.Name y py] e spos) De σ H
theorem trU_ok (cf : Cfs G P cl k) (n : Nat) {N : List Str} {sc : Scope} {X : Cx} {E : XK} {σ : L2.St} (g : Good G N sc (k + 1) X) (hx : PassesAt (L2.CX X.prog X.w) X σ E) {e : Expr} {m : M} (hc : noComp e = false) (h : trE N n sc e = some m) : SndU G P cl X E σ e m := by
  cases n with
  | zero => cases h
  | succ n =>
    have ih : TrOk G P cl X E σ (trE N n sc) := tr_ok cf n g hx
    have pf := cf.toPF
    unfold trE at h
    split at h <;> first | (cases hc; done) | skip
    · -- a list comprehension
      rename_i elt tg iter ifs kk scope p0
      split at h
      · rename_i hc
        rw [Bool.and_eq_true, Bool.and_eq_true, beq_iff_eq] at hc
        obtain ⟨⟨rfl, hb⟩, ht⟩ := hc
        have bok : BlkOk X.N X.env.scope scope (ownOf N tg) := by rw [g.hN, g.sc]; exact blkOk_by hb
        split at h
        · rename_i t w m' e1 e2 e3
          obtain ⟨hi, hset⟩ := trWk_ok g pf ih e2
          have pgb : Blk X scope fun Y => PG Y tg (gOf G t) := fun s H0 C cl' fp => pg_of (g.blk s H0 C cl' fp).hN (g.blk s H0 C cl' fp).K g.nd (g.blk s H0 C cl' fp).calm (fun x hx => by
            have q := List.all_eq_true.mp ht x hx
            rw [Bool.or_eq_true] at q
            rcases q with q | q
            · have e : (compEnvC scope cl' C X.env).scope.names.lookup x = some .local := lookup_relS_keep (by decide) (of_decide_eq_true q)
              exact ⟨.inl e, .inr e⟩
            · have e : (compEnvC scope cl' C X.env).scope.names.lookup x = some .cell := lookup_relS_keep (by decide) (of_decide_eq_true q)
              exact ⟨.inr e, .inl (by show (scope.names.lookup x == some .cell) = true; rw [of_decide_eq_true q]; rfl)⟩) e1
          have el : Blk X scope fun Y => ∀ σ', TrOk G P cl Y (fun _ _ _ => False) σ' (trE N n (relS scope sc)) := fun s H0 C cl' fp σ' => tr_ok cf n (g.blk s H0 C cl' fp) (passAt0 σ')
          split at h
          · cases h
            exact @fun i y py spos De ρ S L h H ok en hy hyl hsw hp => WS.of (ps_setLc g.calm (by rw [g.hN]; exact g.nd) hy hyl hsw piS bok pgb (pts_ttOf (ifs := []) (cs := none) (G := G) (P := P) (cl := cl) rfl) pe_teOf (fold_of hset _)) (lc_rd (ifs := []) (cs := none) hi (own_ix e1) (fun s H0 C cl' fp σ' => (el s H0 C cl' fp σ' _ _ e3).1) rfl ok en hp)
          · obtain ⟨q, hq, rfl⟩ := Option.map_eq_some_iff.mp h
            have sc1 : SndC G P cl X scope [_] (some q) := ⟨q, rfl, fun s H0 C cl' fp σ' => (el s H0 C cl' fp σ' _ _ hq).2⟩
            exact @fun i y py spos De ρ S L h H ok en hy hyl hsw hp => WS.of (ps_setLc g.calm (by rw [g.hN]; exact g.nd) hy hyl hsw piS bok pgb (pts_ttOf sc1) pe_teOf (fold_of hset _)) (lc_rd hi (own_ix e1) (fun s H0 C cl' fp σ' => (el s H0 C cl' fp σ' _ _ e3).1) sc1 ok en hp)
          · cases h
        · cases h
      · cases h
    · -- a dict comprehension
      rename_i kx vx tg iter ifs kk scope p0
      split at h
      · rename_i hc
        rw [Bool.and_eq_true, Bool.and_eq_true, beq_iff_eq] at hc
        obtain ⟨⟨rfl, hb⟩, ht⟩ := hc
        have bok : BlkOk X.N X.env.scope scope (ownOf N tg) := by rw [g.hN, g.sc]; exact blkOk_by hb
        split at h
        · rename_i t w m' q' e1 e2 e3 e4
          obtain ⟨hi, hset⟩ := trWk_ok g pf ih e2
          have pgb : Blk X scope fun Y => PG Y tg (gOf G t) := fun s H0 C cl' fp => pg_of (g.blk s H0 C cl' fp).hN (g.blk s H0 C cl' fp).K g.nd (g.blk s H0 C cl' fp).calm (fun x hx => by
            have q := List.all_eq_true.mp ht x hx
            rw [Bool.or_eq_true] at q
            rcases q with q | q
            · have e : (compEnvC scope cl' C X.env).scope.names.lookup x = some .local := lookup_relS_keep (by decide) (of_decide_eq_true q)
              exact ⟨.inl e, .inr e⟩
            · have e : (compEnvC scope cl' C X.env).scope.names.lookup x = some .cell := lookup_relS_keep (by decide) (of_decide_eq_true q)
              exact ⟨.inr e, .inl (by show (scope.names.lookup x == some .cell) = true; rw [of_decide_eq_true q]; rfl)⟩) e1
          have el : Blk X scope fun Y => ∀ σ', TrOk G P cl Y (fun _ _ _ => False) σ' (trE N n (relS scope sc)) := fun s H0 C cl' fp σ' => tr_ok cf n (g.blk s H0 C cl' fp) (passAt0 σ')
          have hu : X.A.units + 9 < cLine := by have := g.room.un; omega
          split at h
          · cases h
            refine @fun i y py spos De ρ S L h H ok en hy hyl hsw hp => ?_
            by_cases hd : newDisp vx = true
            · rw [if_pos hd] at hp
              exact (fun ρ S L h H ok en hy hyl hsw hp => WS.of (ps_setDc hu g.calm (by rw [g.hN]; exact g.nd) hy hyl hsw piS bok pgb (pts_ttOf (ifs := []) (cs := none) (G := G) (P := P) (cl := cl) rfl) pe_teOf pe_teOf (fold_of hset _)) (dcR_rd g hi (own_ix e1) (fun s H0 C cl' fp σ' => (el s H0 C cl' fp σ' _ _ e3).1) (fun s H0 C cl' fp σ' => (el s H0 C cl' fp σ' _ _ e4).1) ok en hp)) ρ S L h H ok en hy hyl hsw hp
            · rw [if_neg hd] at hp
              exact (fun ρ S L h H ok en hy hyl hsw hp => WS.of (ps_setDc hu g.calm (by rw [g.hN]; exact g.nd) hy hyl hsw piS bok pgb (pts_ttOf (ifs := []) (cs := none) (G := G) (P := P) (cl := cl) rfl) pe_teOf pe_teOf (fold_of hset _)) (dc_rd (ifs := []) (cs := none) g hi (own_ix e1) (fun s H0 C cl' fp σ' => (el s H0 C cl' fp σ' _ _ e3).1) (fun s H0 C cl' fp σ' => (el s H0 C cl' fp σ' _ _ e4).1) rfl ok en hp)) ρ S L h H ok en hy hyl hsw hp
          · obtain ⟨q, hq, rfl⟩ := Option.map_eq_some_iff.mp h
            have sc1 : SndC G P cl X scope [_] (some q) := ⟨q, rfl, fun s H0 C cl' fp σ' => (el s H0 C cl' fp σ' _ _ hq).2⟩
            exact @fun i y py spos De ρ S L h H ok en hy hyl hsw hp => WS.of (ps_setDc hu g.calm (by rw [g.hN]; exact g.nd) hy hyl hsw piS bok pgb (pts_ttOf sc1) pe_teOf pe_teOf (fold_of hset _)) (dc_rd g hi (own_ix e1) (fun s H0 C cl' fp σ' => (el s H0 C cl' fp σ' _ _ e3).1) (fun s H0 C cl' fp σ' => (el s H0 C cl' fp σ' _ _ e4).1) sc1 ok en hp)
          · cases h
        · cases h
      · cases h
    · cases h
/-! ### whether a store is the comprehension's -/
theorem sw_of {X : Cx} {sc : Scope} {e : Expr} {x : Str} {p : Pos} {l : Nat} (hsc : X.env.scope = sc) (hk : X.env.scope.kind = .function) (hs : noSet e = true) : swapsWith e (some (.Name x p)) l X.env = pure (swapB sc e x p) := by
  have hb : X.env.blockKind = .function := by unfold PySem.Env.blockKind; rw [hk]; rfl
  have kx : ∀ (s : Scope) (q : Pos), (X.env.blockKind == .function && X.env.kindOf x == some .local && p.line == q.line && !(s.names.any fun (n, k) => n == x && (k == .local || k == .cell))) = (decide (sc.names.lookup x = some .local) && (p.line == q.line) && !(s.names.any fun (n, k) => n == x && (k == .local || k == .cell))) := fun s q => by
    have : (X.env.kindOf x == some NameKind.local) = decide (sc.names.lookup x = some .local) := by
      rw [← hsc]
      show (X.env.scope.names.lookup x == some NameKind.local) = _
      by_cases z : X.env.scope.names.lookup x = some NameKind.local <;> simp [z]
    rw [hb, this]; rfl
  cases e <;> first
    | (cases hs; done)
    | rfl
    | skip
  · unfold swapsWith swapB
    exact congrArg pure (kx _ _)
  · unfold swapsWith swapB
    exact congrArg pure (kx _ _)
section
variable {X : Cx} {W : WX} {N : List Str} {sc : Scope} {De : Ends} {L L1 : List Addr} {S H S1 H1 : Hp} {ρ : Pe.Env} {σ : L2.St} {h : Cells} {e o i : Expr} {m mo mi : M} {pos p p1 p2 p3 : Pos}
def LockV (Q : VK) : VK := fun v H' => Q v H' ∨ ∃ p o, H' p = some o ∧ Mut (some o) ∧ ∀ ob, Q v (upd H' p (.frz ob o))
theorem post_toW {E : XK} {o : Out Val} {Q : VK} (h : Post G E L S H o.toW (RW G L S H Q)) : Post G E L S H o (RV G L S H (LockV Q)) := by
  cases o with
  | exc x h' => exact h
  | bad => exact h
  | ok v h' =>
    intro L' S' H' vv st ok hv
    cases v with
    | w w => exact .inl (h L' S' H' vv st ok hv)
    | new ob =>
      have h' : Post G E L S H (match ob.fz.map Pe.W.d with | some x => Out.ok x h' | none => Out.bad) (RW G L S H Q) := h
      obtain ⟨a, ho, rfl, h0, hs, hl, ha, hob, _⟩ := hv
      cases q : ob.fz with
      | none => rw [q] at h'; exact False.elim h'
      | some x =>
        rw [q] at h'
        rcases fz_ok st ok h0 hs hl ha hob q with ⟨S2, s2, o2, r2⟩ | k
        · exact .inl (h' _ _ _ _ s2 o2 r2)
        · exact .inr ⟨a, ho, ha, hob.kind.2, fun od => let ⟨S2, s2, o2, r2⟩ := k od; h' _ _ _ _ s2 o2 r2⟩
theorem ws_lock {st : Stmt} (h : WS X st { De with nx := fun σ H' => De.nx σ H' ∨ ∃ p o, H' p = some o ∧ Mut (some o) ∧ ∀ ob, De.nx σ (upd H' p (.frz ob o)) } σ H) : WS X st De σ H := fun pins s I => thn (h pins s I) fun f s' q => by
  cases f with
  | next =>
    obtain ⟨σ', H', I', q⟩ := q
    rcases q with q | ⟨p, o, hp, mu, q⟩
    · exact ⟨σ', H', I', q⟩
    · obtain ⟨od, I2⟩ := I'.lock hp mu
      exact ⟨σ', _, I2, q od⟩
  | brk => exact q
  | cont => exact q
  | ret u => exact q
theorem ss_asgAny {j n : Nat} {own : Bool} {x : Str} (g : GoodS G N sc (k + 1) X W) (cf : Cfs G P cl k) (hl : locB sc x = true) (hi : ixOf N x = some j) (hs : noSet e = true) (he : trE N n sc e = some m) : SndS G P cl wf X W (.Assign [.Name x p] e pos) (.asg (.name j) own m) := by
  have hE : ∀ σ, SndE G P cl X (eW W σ) σ e m := fun σ => (tr_ok cf n g.toGood (g.pass σ) _ _ he).1
  have sw := sw_of (p := p) (x := x) (l := pos.line) g.sc g.kind hs
  cases hb : swapB sc e x p with
  | false => rw [hb] at sw; exact ss_asg g hl hi hE sw
  | true =>
    rw [hb] at sw
    have hx : sc.names.lookup x = some .local := by
      unfold swapB at hb
      split at hb
      · simp only [Bool.and_eq_true, decide_eq_true_eq] at hb; exact hb.1.1
      · simp only [Bool.and_eq_true, decide_eq_true_eq] at hb; exact hb.1.1
      · cases hb
    have hc : noComp e = false := by
      unfold swapB at hb
      split at hb
      · rfl
      · rfl
      · cases hb
    intro ρ σ S L h H ok en De hp
    have hlx : X.env.scope.names.lookup x = some .local := by rw [g.sc]; exact hx
    have hU : SndU G P cl X (eW W σ) σ e m := trU_ok cf n g.toGood (g.pass σ) hc he
    -- a comprehension gives a new object, or raises
    rcases asg_post (own := own) (then_post en hp) en with ⟨_, q⟩ | q
    · exact hU ρ S L h H ok en (by rw [g.hN]; exact ixOf_ok hi) hlx sw q
    · exact ws_lock (hU ρ S L h H ok en (by rw [g.hN]; exact ixOf_ok hi) hlx sw (post_toW q))
end
end
end Pe
set_option maxHeartbeats 4000000
namespace Pe
open PySem PySem.Spec PyProof.Rows L2
section
variable {G : Gx} {P : Prog} {cl : Cl} {wf : Nat} {k : Nat} {X : Cx} {W : WX} {N : List Str} {sc : Scope} {De : Ends} {L L1 : List Addr} {S H S1 H1 : Hp} {ρ : Pe.Env} {σ : L2.St} {h : Cells} {pos p1 p2 : Pos}
/-- handlers that hand back a constant -/
inductive HdS (sc : Scope) : List ExceptHandler → List Hd → Prop
  | nil : HdS sc [] []
  | cons {x : Str} {np pc pr ph : Pos} {cv : Const} {j : Nat} {d : D} {r : List ExceptHandler} {q : List Hd} (hg : isGl sc x = true) (hd : trC cv = some d) (t : HdS sc r q) :
      HdS sc (.ExceptHandler (some (.Name x np)) none [.Return (some (.Constant cv j pc)) pr] ph :: r) (.mk x none [.ret (some (.con d))] :: q)
/-- the suites as readings -/
def tsOf (X : Cx) (suite : List Stmt) : Addr → Value → Option Addr → TS := fun a cls d D σ H => ∀ oe pn, Zc cls d oe → (∃ vs, oe.data = .fields vs) → WSs (X.suite a ((a, oe) :: pn)) suite D σ H
def lOf (G : Gx) (X : Cx) : List ExceptHandler → List (Value × (Addr → Value → Option Addr → TS))
  | .ExceptHandler (some (.Name x _)) none suite _ :: r => (.ref (clsAt G.mg x), tsOf X suite) :: lOf G X r
  | _ => []
theorem con_rp {cv : Const} {d : D} (hd : trC cv = some d) : ∃ v, (∀ S, Rp G S d v) ∧ ∀ (Y : Cx) (j : Nat) (pc : Pos), PE Y (.Constant cv j pc) (tC v) := by
  cases cv <;> first
    | (cases hd; exact ⟨_, fun _ => rfl, fun Y j pc => pe_non⟩)
    | (cases hd; exact ⟨_, fun _ => rfl, fun Y j pc => pe_bl⟩)
    | (cases hd; exact ⟨_, fun _ => rfl, fun Y j pc => pe_int⟩)
    | (cases hd; exact ⟨_, fun _ => rfl, fun Y j pc => pe_str⟩)
    | (cases hd)
/-- what the handlers wish, by what they do -/
theorem hd_wish (g : GoodS G N sc (k + 1) X W) (cf : Cfs G P cl k) {e : Ex} {de : XDef} (he : P.exc e.c = some de) {hs : List ExceptHandler} {qs : List Hd} (t : HdS sc hs qs) (hx : ∀ q ∈ qs, match q with | .mk x _ _ => (P.exc x).isSome = true) :
    ∀ {L : List Addr} {S H : Hp} {cls : Value} {d : Option Addr}, Ok G S L h H → EnvOk G S L ρ σ → XIs G S e cls d → PostS G De W L S H (evalHs P cl wf qs e ρ h) → wMany X.K W De (lOf G X hs) cls d σ H := by
  induction t with
  | nil => intro L S H cls d ok en hxi hp; exact hp L S H σ cls d Step.refl ok en hxi
  | cons hg hd t ih =>
    rename_i x np pc pr ph cv j dd r q
    intro L S H cls d ok en hxi hp
    obtain ⟨dx, hdx⟩ := Option.isSome_iff_exists.mp (hx _ List.mem_cons_self)
    have em := (cf.exm x dx e.c de hdx he).2
    refine ⟨catches P x e.c, by rw [hxi.1, g.K]; exact em, fun hb a ha oe pn z vs => ?_, fun hb => ?_⟩
    · have hp' : PostS G De W L S H (if catches P x e.c = true then evalSs P cl wf [.ret (some (.con dd))] ρ h else evalHs P cl wf q e ρ h) := hp
      rw [if_pos hb] at hp'
      obtain ⟨v, r1, r2⟩ := con_rp (G := G) hd
      have rt : RV G L S H De.rt (vD dd) h := hp'
      exact WSs.of (pss_cons (ps_ret (r2 _ _ _)) pss_nil) (rt L S H v Step.refl ok (r1 S))
    · have hp' : PostS G De W L S H (if catches P x e.c = true then evalSs P cl wf [.ret (some (.con dd))] ρ h else evalHs P cl wf q e ρ h) := hp
      rw [if_neg (by rw [hb]; decide)] at hp'
      exact ih (fun q' hq => hx q' (List.mem_cons_of_mem _ hq)) ok en hxi hp'
theorem hsOk_ok : ∀ {qs : List Hd}, hsOk P qs = true → ∀ q ∈ qs, match q with | .mk x _ _ => (P.exc x).isSome = true
  | [], _, q, hq => by cases hq
  | .mk c s b :: r, h, q, hq => by
    have h' := Bool.and_eq_true_iff.mp (show ((P.exc c).isSome && hsOk P r) = true from h)
    rcases List.mem_cons.mp hq with e | e
    · subst e; exact h'.1
    · exact hsOk_ok h'.2 q e
theorem hd_ok {xs : List Str} (g : GoodS G N sc (k + 1) X W) (hm : ∀ x, isGl sc x = true → x ∈ xs → X.mg x = some (.ref (clsAt G.mg x))) {hs : List ExceptHandler} {qs : List Hd} (t : HdS sc hs qs) (hx : ∀ q ∈ qs, match q with | .mk x _ _ => x ∈ xs) : HdsOk X hs (lOf G X hs) := by
  induction t with
  | nil => exact .nil
  | cons hg hd t ih =>
    rename_i x np pc pr ph cv j dd r q
    exact .cons ⟨g.gl hg, hdb_of hg, .inl (hm x hg (hx _ List.mem_cons_self))⟩ (fun a oe cls d pn z vs => ⟨fun pins s σ H D I h => h oe pn z vs pins s I⟩) (ih fun q' hq => hx q' (List.mem_cons_of_mem _ hq))
theorem ss_try {body : List Stmt} {sb : List Pe.S} {h0 : ExceptHandler} {hs : List ExceptHandler} {qs : List Hd} (g : GoodS G N sc (k + 1) X W) (cf : Cfs G P cl k) (t : HdS sc (h0 :: hs) qs)
    (hb : ∀ (W' : WX) (pn : List (Addr × Obj)) (xe : Value → Shared → Prop), GoodS G N sc (k + 1) (X.tr pn xe) W' → SndSs G P cl wf (X.tr pn xe) W' body sb) : SndS G P cl wf X W (.Try body (h0 :: hs) [] [] pos) (.tryy sb qs) := fun ρ σ S L h H ok en De hp => by
  have hp0 : PostS G De W L S H (if hsOk P qs = true then (match evalSs P cl wf sb ρ h with
    | .exc e ρ h => if (P.exc e.c).isSome = true then evalHs P cl wf qs e ρ h else .bad
    | o => o) else .bad) := hp
  by_cases hok : hsOk P qs = true
  rotate_left
  · rw [if_neg hok] at hp0; exact hp0.elim
  rw [if_pos hok] at hp0
  have hko := hsOk_ok hok
  have hH : HdsOk X (h0 :: hs) (lOf G X (h0 :: hs)) := hd_ok (xs := qs.map fun | .mk x _ _ => x) g (fun x _ hx => by
    obtain ⟨q, hq, rfl⟩ := List.mem_map.mp hx
    obtain ⟨y, s, b⟩ := q
    obtain ⟨d, hd⟩ := Option.isSome_iff_exists.mp (hko _ hq)
    rw [g.mg]; exact (cf.exm y d y d hd hd).1) t fun q hq => by
    obtain ⟨y, s, b⟩ := q
    exact List.mem_map.mpr ⟨_, hq, rfl⟩
  refine WS.of (ps_try_many (tb := fun W D σ H => ∀ pn xe, Takes (X.tr pn xe) W → PassesOwn (model X.prog X.w) X.A X.env xe → WSs (X.tr pn xe) body D σ H) g.st g.ff g.tk (fun W pn xe tk po => ⟨fun pins s σ H D I h => h pn xe tk po pins s I⟩) hH) ?_
  intro pn xe tk po
  have g' : GoodS G N sc (k + 1) (X.tr pn xe) (wMany X.K W De (lOf G X (h0 :: hs))) := ⟨⟨g.P, g.w, g.K, g.mg, g.base, g.hN, g.nd, g.sc, g.calm, g.room⟩, g.kind, g.fn, po, tk, g.st, g.ff⟩
  refine hb _ pn xe g' ρ σ S L h H ok en De ?_
  have hp' : PostS G De W L S H (match evalSs P cl wf sb ρ h with
    | .exc e ρ h => if (P.exc e.c).isSome = true then evalHs P cl wf qs e ρ h else .bad
    | o => o) := hp0
  revert hp'
  generalize evalSs P cl wf sb ρ h = o
  intro hp'
  cases o with
  | nx ρ h => exact hp'
  | bk ρ h => exact hp'
  | ct ρ h => exact hp'
  | rt v h => exact hp'
  | bad => exact hp'
  | exc e ρ1 h1 =>
    have hp2 : PostS G De W L S H (if (P.exc e.c).isSome = true then evalHs P cl wf qs e ρ1 h1 else .bad) := hp'
    split at hp2
    · rename_i hc
      obtain ⟨de, hde⟩ := Option.isSome_iff_exists.mp hc
      exact fun L' S' H' σ' cls d st ok' en' hx => hd_wish g cf hde t hko ok' en' hx (PostS.sh st hp2)
    · exact hp2.elim
theorem trHs_ok : ∀ {hs : List ExceptHandler} {qs : List Hd}, trHs sc hs = some qs → HdS sc hs qs
  | [], qs, h => by cases h; exact .nil
  | hd :: r, qs, h => by
    unfold trHs at h
    split at h
    · rename_i z; cases z
    · rename_i x np c j pc pr ph r' z
      cases z
      split at h
      · rename_i hg
        split at h
        · rename_i d q e1 e2
          cases h
          exact .cons hg e1 (trHs_ok e2)
        · cases h
      · cases h
    · cases h
end
end Pe
set_option maxHeartbeats 4000000
namespace Pe
open PySem PySem.Spec PyProof.Rows L2
section
variable {G : Gx} {P : Prog} {cl : Cl} {wf : Nat} {k : Nat} {X : Cx} {W : WX} {N : List Str} {sc : Scope} {De : Ends} {L L1 : List Addr} {S H S1 H1 : Hp} {ρ : Pe.Env} {σ : L2.St} {h : Cells} {e o i a b : Expr} {m mo mi : M} {pos p p1 p2 p3 p4 : Pos}
theorem toD_bind {α : Type} (oo : Out α) (f : α → Cells → Out Val) : (oo.bind f).toD = oo.bind fun a h => (f a h).toD := by cases oo <;> rfl
theorem par_sw {x y : Str} {kk k2 : Nat} (hsc : X.env.scope = sc) (hk : X.env.scope.kind = .function) (hp : parB sc x y p1 p2 a b = true) : swappedStores [.Tuple [.Name x p1, .Name y p2] kk p3] (.Tuple [a, b] k2 p4) X.env = pure (some [x, y]) := by
  unfold parB at hp
  simp only [Bool.and_eq_true, decide_eq_true_eq, Bool.not_eq_true', beq_iff_eq] at hp
  obtain ⟨⟨⟨⟨⟨⟨⟨hx, hy⟩, hl⟩, hxy⟩, ha⟩, hb⟩, hf⟩, hc⟩ := hp
  have e1 : X.env.kindOf x = some NameKind.local := by rw [← hx, ← hsc]; rfl
  have e2 : X.env.kindOf y = some NameKind.local := by rw [← hy, ← hsc]; rfl
  have hbk : X.env.blockKind = .function := by unfold PySem.Env.blockKind; rw [hk]; rfl
  have sa : ∀ z : Expr, notStar z = true → (match z with | .Starred _ _ => true | _ => false) = false := fun z hz => by cases z <;> first | rfl | (cases hz; done)
  have hxy' : ¬ x = y := by simpa using hxy
  have sab : ([a, b].any fun | .Starred .. => true | _ => false) = false := by
    cases a <;> first | (cases ha; done) | (cases b <;> first | (cases hb; done) | rfl)
  have ed : [x, y].eraseDups.length = 2 := by
    have : (y == x) = false := by simpa using fun z : y = x => hxy' z.symm
    simp [List.eraseDups_cons, this]
  unfold swappedStores
  simp only [sab, hbk, hf, hc]
  simp [List.filterMap_cons, e1, e2, hl, ed, Expr.pos]
  intro z
  rcases z with z | z
  · exact absurd ((sa a ha).symm.trans z) (by decide)
  · exact absurd ((sa b hb).symm.trans z) (by decide)
theorem ss_par {x y : Str} {j1 j2 : Nat} {kk k2 : Nat} {ms : List M} (g : GoodS G N sc k X W) (hp : parB sc x y p1 p2 a b = true) (h1 : ixOf N x = some j1) (h2 : ixOf N y = some j2) (hl : ∀ σ, SndL G P cl X (eW W σ) σ [a, b] ms) :
    SndS G P cl wf X W (.Assign [.Tuple [.Name x p1, .Name y p2] kk p3] (.Tuple [a, b] k2 p4) pos) (.asg (.tup [j1, j2]) false (.tup ms)) := fun ρ σ S L h H ok en De hps => by
  have hw := par_sw (kk := kk) (k2 := k2) (p3 := p3) (p4 := p4) g.sc g.kind hp
  have hp0 := hp
  unfold parB at hp
  simp only [Bool.and_eq_true, decide_eq_true_eq, Bool.not_eq_true', beq_iff_eq] at hp
  obtain ⟨⟨⟨⟨⟨⟨⟨hx, hy⟩, hl2⟩, hxy⟩, ha⟩, hb⟩, hf⟩, hc⟩ := hp
  have hij : j1 ≠ j2 := fun z => by
    subst z
    have e1 := ixOf_ok h1
    rw [ixOf_ok h2] at e1
    have : y = x := by simpa using e1
    subst this
    simp at hxy
  have hq := then_post en hps
  have e0 : (evalE P cl ρ (.tup ms) h).toD = (evalDs P cl ρ ms h).bind fun ds h => (if ds.length ≤ sizeLine then (.ok (vD (.tup ds)) h : Out Val) else .bad).toD := toD_bind _ _
  rw [e0] at hq
  refine WS.of (ps_par g.calm (by rw [g.hN]; exact g.nd) (by rw [g.hN]; exact ixOf_ok h1) (by rw [g.hN]; exact ixOf_ok h2) hij (by rw [g.sc]; exact hx) (by rw [g.sc]; exact hy) paS hw swT) ?_
  refine ds_a (hl σ) ok en hq fun ds h1 vs L1 S1 H1 st ok1 en1 r hp1 => ?_
  split at hp1
  · have hp2 : PostS G De W L S H (match bindT (.tup [j1, j2]) (.tup ds) ρ with | some ρ => .nx ρ h1 | none => .bad) := hp1
    split at hp2
    · rename_i ρ' hbt
      unfold bindT at hbt
      split at hbt
      · rename_i z; cases z
      · rename_i i j u v e1 e2
        cases e1
        cases e2
        cases hbt
        obtain ⟨v1, q1, rfl, r1, v2, q2, rfl, r2, r3⟩ := r
        have r3 : q2 = [] := r3
        subst r3
        exact ⟨v1, v2, rfl, hp2 L1 S1 H1 _ st ok1 ((en1.set (w := .d u) r1).set (w := .d v) r2)⟩
      · cases hbt
    · exact hp2.elim
  · exact hp1.elim
theorem ss_parO {x y : Str} {j1 j2 : Nat} {kk k2 : Nat} {ms : List M} {os : List Bool} (g : GoodS G N sc k X W) (hp : parB sc x y p1 p2 a b = true) (h1 : ixOf N x = some j1) (h2 : ixOf N y = some j2) (hl : ∀ σ, SndL G P cl X (eW W σ) σ [a, b] ms) :
    SndS G P cl wf X W (.Assign [.Tuple [.Name x p1, .Name y p2] kk p3] (.Tuple [a, b] k2 p4) pos) (.parO [j1, j2] os ms) := fun ρ σ S L h H ok en De hps => by
  have hw := par_sw (kk := kk) (k2 := k2) (p3 := p3) (p4 := p4) g.sc g.kind hp
  have hp0 := hp
  unfold parB at hp
  simp only [Bool.and_eq_true, decide_eq_true_eq, Bool.not_eq_true', beq_iff_eq] at hp
  obtain ⟨⟨⟨⟨⟨⟨⟨hx, hy⟩, hl2⟩, hxy⟩, ha⟩, hb⟩, hf⟩, hc⟩ := hp
  have hij : j1 ≠ j2 := fun z => by
    subst z
    have e1 := ixOf_ok h1
    rw [ixOf_ok h2] at e1
    have : y = x := by simpa using e1
    subst this
    simp at hxy
  have hq := then_post en hps
  have hq' : Post G (eW W σ) L S H ((evalOs P cl ρ os ms h).bind fun ws h => Out.ok ws h) fun ws h => PostS G De W L S H (match bindWs [j1, j2] ws ρ with | some ρ => SOut.nx ρ h | none => .bad) := by
    have e1 : (evalOs P cl ρ os ms h).bind (fun ws h => Out.ok ws h) = evalOs P cl ρ os ms h := by cases evalOs P cl ρ os ms h <;> rfl
    rw [e1]; exact hq
  refine WS.of (ps_par g.calm (by rw [g.hN]; exact g.nd) (by rw [g.hN]; exact ixOf_ok h1) (by rw [g.hN]; exact ixOf_ok h2) hij (by rw [g.sc]; exact hx) (by rw [g.sc]; exact hy) paS hw swT) ?_
  refine os_a (hl σ) ok en hq' fun ws h1 vs L1 S1 H1 st ok1 en1 r hp1 => ?_
  have hp2 : PostS G De W L S H (match bindWs [j1, j2] ws ρ with | some ρ => SOut.nx ρ h1 | none => .bad) := hp1
  split at hp2
  · rename_i ρ' hb
    match ws, r, hb with
    | [u, v], r, hb =>
      cases hb
      obtain ⟨v1, q1, rfl, r1, v2, q2, rfl, r2, r3⟩ := r
      have r3 : q2 = [] := r3
      subst r3
      exact ⟨v1, v2, rfl, hp2 L1 S1 H1 _ st ok1 ((en1.set (w := u) r1).set (w := v) r2)⟩
    | [], _, hb => cases hb
    | [_], _, hb => cases hb
    | _ :: _ :: _ :: _, _, hb => cases hb
  · exact hp2.elim
theorem trSs_ok {T : Stmt → Option Pe.S} (t : ∀ st s, T st = some s → SndS G P cl wf X W st s) : ∀ {st : List Stmt} {s : List Pe.S}, trSs T st = some s → SndSs G P cl wf X W st s
  | [], s, h => by cases h; exact sss_nil
  | st :: r, s, h => by
    have h' : (match trSs T r with | some qs => some ((T st).getD .nope :: qs) | none => none) = some s := h
    split at h'
    · rename_i qs e2
      cases h'
      refine sss_cons ?_ (trSs_ok t e2)
      cases e1 : T st with
      | none => exact fun ρ σ S L h H ok en De hp => False.elim hp
      | some q => exact t st q e1
    · cases h'
theorem ss_raise {x msg : Str} {j : Nat} (g : GoodS G N sc (k + 1) X W) (cf : Cfs G P cl k) (hg : isGl sc x = true) : SndS G P cl wf X W (.Raise (some (.Call (.Name x p1) [.Constant (.str msg) j p2] [] p3)) none pos) (.raise x []) := fun ρ σ S L h H ok en De hp => by
  have hp' : PostS G De W L S H (match P.exc x with
    | some d => if d.fields.length = 0 then SOut.exc ⟨x, d.fields.zip []⟩ ρ h else .bad
    | none => .bad) := hp
  split at hp'
  · rename_i d hd
    split at hp'
    · rename_i hz
      have hz : d.fields = [] := List.length_eq_zero_iff.mp hz
      have xf := cf.xc x d hd hz
      obtain ⟨B, newId, initId, bmB, F, q⟩ := xf.ex
      have m := xf.mg
      have kp := xf.kp
      have sb := xf.sb
      have ty := xf.ty
      rw [← g.K] at q kp sb ty
      have m' : X.mg x = some (.ref (clsAt G.mg x)) := by rw [g.mg]; exact m
      rw [hz] at hp'
      exact WS.of (ps_raise g.calm g.tk (pmk_own F q m' kp (raises_own sb ty) (g.gl hg) (hdb_of hg))) (hp' L S H σ _ none Step.refl ok en ⟨rfl, rfl⟩)
    · exact hp'.elim
  · exact hp'.elim
theorem trS_ok {own : List Str} (cf : Cfs G P cl k) : ∀ {X : Cx} {W : WX} (_ : GoodS G N sc (k + 1) X W) (n : Nat) (st : Stmt) (s : Pe.S), trS N own n sc st = some s → SndS G P cl wf X W st s
  | X, W, g, 0, st, s, h => by cases h
  | X, W, g, n + 1, st, s, h => by
    have tE : ∀ σ, TrOk G P cl X (eW W σ) σ (trE N n sc) := fun σ => tr_ok cf n g.toGood (g.pass σ)
    have E1 : ∀ {e : Expr} {m : M}, trE N n sc e = some m → ∀ σ, SndE G P cl X (eW W σ) σ e m := fun h σ => (tE σ _ _ h).1
    have T1 : ∀ {e : Expr} {m : M}, trE N n sc e = some m → ∀ σ, SndT G P cl X (eW W σ) σ e m := fun h σ => (tE σ _ _ h).2
    have ih : ∀ {st : List Stmt} {s : List Pe.S}, trSs (trS N own n sc) st = some s → SndSs G P cl wf X W st s := fun h => trSs_ok (trS_ok cf g n) h
    unfold trS at h
    split at h
    · rename_i x p0 e p1
      split at h
      · rename_i hc
        rw [Bool.and_eq_true] at hc
        split at h
        · rename_i j m e1 e2
          cases h
          exact ss_asgAny g cf hc.1 e1 hc.2 e2
        · cases h
      · cases h
    · rename_i x p1 y p2 kk p3 e p4
      split at h
      · rename_i hc
        rw [Bool.and_eq_true, Bool.and_eq_true] at hc
        split at h
        · rename_i i j m e1 e2 e3
          cases h
          have ht : trTg N (.Tuple [.Name x p1, .Name y p2] kk p3) = some (.tup [i, j]) := by
            show (match ixOf N x, ixOf N y with | some i, some j => some (Tg.tup [i, j]) | _, _ => none) = _
            rw [e1, e2]
          have hall : (tgNames (.Tuple [.Name x p1, .Name y p2] kk p3)).all (locB sc) = true := by
            show (locB sc x && (locB sc y && true)) = true
            rw [hc.1.1, hc.1.2]; rfl
          have hc2 := hc.2
          unfold parOk at hc2
          split at hc2
          · rename_i a b k2 p5
            rw [Bool.or_eq_true] at hc2
            by_cases hpar : parB sc x y p1 p2 a b = true
            · cases n with
              | zero => cases e3
              | succ n =>
                obtain ⟨ms, hms, rfl⟩ := Option.map_eq_some_iff.mp (show (trL (trE N n sc) [a, b]).map M.tup = some m from e3)
                show SndS G P cl wf X W _ (if (own.contains x || own.contains y) = true then _ else _)
                split
                · exact ss_parO g hpar e1 e2 fun σ => trL_ok (tr_ok cf n g.toGood (g.pass σ)) hms
                · exact ss_par g hpar e1 e2 fun σ => trL_ok (tr_ok cf n g.toGood (g.pass σ)) hms
            · rcases hc2 with z | z
              · exact absurd z hpar
              · cases n with
                | zero => cases e3
                | succ n =>
                  have E3 := E1 e3
                  obtain ⟨ms, hms, rfl⟩ := Option.map_eq_some_iff.mp (show (trL (trE N n sc) [a, b]).map M.tup = some m from e3)
                  show SndS G P cl wf X W _ (if (own.contains x || own.contains y) = true then _ else _)
                  split
                  · refine ss_parT g (ts := [i, j]) (ms := ms) ?_ (fun σ => trL_ok (tr_ok cf n g.toGood (g.pass σ)) hms) (by simp) rfl (noSwapP (by rw [g.sc]; exact z))
                    show (if locB sc x then _ else none) = some [i, j]
                    rw [hc.1.1, e1]
                    show (match some i, (if locB sc y then _ else none) with | some i, some is => some (i :: is) | _, _ => none) = some [i, j]
                    rw [hc.1.2, e2]; rfl
                  · exact ss_tup g hall ht E3 rfl (noSwapP (by rw [g.sc]; exact z))
          · rename_i hne
            have e4 : parS sc own x y p1 p2 i j e m = .asg (.tup [i, j]) false m := by
              unfold parS
              split
              · exact absurd rfl (hne _ _ _ _)
              · rfl
            rw [e4]
            exact ss_tup g hall ht (E1 e3) rfl (noSwap hc2)
        · cases h
      · cases h
    · split at h
      · rename_i hcc
        rw [Bool.and_eq_true, beq_iff_eq, decide_eq_true_eq] at hcc
        split at h
        · rename_i ts ms e1 e2
          cases h
          exact ss_parL g e1 (fun σ => trL_ok (tr_ok cf n g.toGood (g.pass σ)) e2) hcc.2 hcc.1
        · cases h
      · cases h
    · split at h
      · rename_i hw
        split at h
        · rename_i ts m e1 e2
          cases h
          exact ss_unp g e1 (E1 e2) hw
        · cases h
      · cases h
    · split at h
      · rename_i e1 e2
        cases h
        exact ss_setA g cf (E1 e1) (E1 e2)
      · cases h
    · split at h
      · rename_i hs
        split at h
        · rename_i e1 e2 e3
          cases h
          exact ss_setI g hs (E1 e1) (E1 e2) (E1 e3)
        · cases h
      · cases h
    · split at h
      · rename_i hc
        rw [Bool.and_eq_true, Bool.or_eq_true, beq_iff_eq, beq_iff_eq] at hc
        split at h
        · rename_i e1 e2
          cases h
          exact ss_augN g hc.1 e1 hc.2 (E1 e2)
        · cases h
      · cases h
    · split at h
      · rename_i hc
        obtain ⟨q, hq, rfl⟩ := Option.map_eq_some_iff.mp h
        exact ss_expr (E1 hq) hc
      · cases h
    · cases h; exact ss_retN
    · obtain ⟨q, hq, rfl⟩ := Option.map_eq_some_iff.mp h
      exact ss_ret fun σ => by
        split
        · exact snd_settle (E1 hq σ)
        · exact E1 hq σ
    · split at h
      · rename_i e1 e2 e3
        cases h
        exact ss_if (T1 e1) (ih e2) (ih e3)
      · cases h
    · split at h
      · rename_i hc
        split at h
        · rename_i e1 e2 e3
          cases h
          have hw := fun σ => trWk_ok (tg := _) g.toGood cf.toPF (tE σ) e2
          exact ss_for g hc e1 (fun σ => (hw σ).1) (ih e3) (hw []).2
        · cases h
      · cases h
    · split at h
      · rename_i e1 e2
        cases h
        exact ss_while g (T1 e1) (ih e2)
      · cases h
    · split at h
      · rename_i hg
        cases h
        exact ss_raise g cf hg
      · cases h
    · split at h
      · rename_i e1 e2
        cases h
        exact ss_try g cf (trHs_ok e2) fun W' pn xe g' => trSs_ok (trS_ok cf g' n) e1
      · cases h
    · cases h; exact ss_break
    · cases h; exact ss_cont
    · cases h; exact ss_pass
    · cases h
end
end Pe
set_option maxHeartbeats 4000000
namespace Pe
open PySem PySem.Spec PyProof.Rows L2
/-! ## defs -/
section
variable {G : Gx} {P : Prog} {cl : Cl} {wf : Nat} {k : Nat} {L L1 : List Addr} {S H S1 H1 : Hp} {h : Cells}
theorem fz_lim {o : Ob} {x : D} (e : o.fz = some x) (n : Nat) : o.lim n = true := by
  cases o with
  | lstR _ => cases e
  | dicR _ => cases e
  | ins c fs =>
    obtain ⟨ds, e1, e2⟩ := Option.map_eq_some_iff.mp (show (Ws.ds fs).map (D.ins c) = some x from e)
    clear e e2
    induction fs generalizing ds with
    | nil => rfl
    | cons p fs ih =>
      obtain ⟨y, w⟩ := p
      cases w with
      | r m => unfold Ws.ds at e1; cases e1
      | d d =>
        unfold Ws.ds at e1
        cases q : Ws.ds fs with
        | none => rw [q] at e1; cases e1
        | some ds' => exact Bool.and_eq_true_iff.mpr ⟨rfl, ih ds' q⟩
  | _ => rfl
/-- what the def hands back, its own cells forgotten -/
theorem finish_ok {E : XK} {keep : Bool} {v : Val} {h' : Cells} {Q : VK} (hp : Post G E L S H (finish keep L.length v h') (RV G L S H Q)) : RV G L S H Q v h' := fun L' S' H' vv st ok hv => by
  unfold finish at hp
  cases keep with
  | true => exact hp L' S' H' vv st ok hv
  | false =>
    rw [if_neg (by decide)] at hp
    have s2 := st.cut
    have o2 := ok.cut L.length
    have le : L.length ≤ L'.length := by obtain ⟨M, e, _⟩ := st.l; rw [e, List.length_append]; omega
    have ln : (L'.take L.length).length = L.length := by rw [List.length_take]; omega
    split at hp
    · rename_i n
      split at hp
      · rename_i hn
        obtain ⟨a, e1, e2⟩ := hv
        exact hp _ S' H' vv s2 o2 ⟨a, by rw [List.getElem?_take_of_lt hn]; exact e1, e2⟩
      · rename_i hn
        obtain ⟨a, e1, rfl⟩ := hv
        split at hp
        · rename_i x lk hc
          rcases ok.cell n a _ e1 hc with ⟨o, ob, _⟩ | ⟨y, e2, r2, _⟩
          · exact ob.elim
          · cases e2; exact hp _ S' H' _ s2 o2 r2
        · rename_i ob hng hc
          split at hp
          · rename_i x hx
            have liv : ob.liv = true := by
              cases ob with
              | gone y => exact (hng y rfl).elim
              | _ => rfl
            obtain ⟨ho, hob, q⟩ := (ok.cell n a _ e1 hc).ob liv
            have q : H' a = some ho := by simpa using q
            have h0 : H a = none := by
              obtain ⟨M, e, f⟩ := st.l
              refine f a ?_
              rw [e, List.getElem?_append_right (Nat.le_of_not_lt hn)] at e1
              exact List.mem_of_getElem? e1
            exact hp _ S' H' _ s2 o2 ⟨a, ho, rfl, h0, ok.out n a _ e1 hc liv, get_in e1 ok.nd (Nat.le_of_not_lt hn), q, hob.cut (fz_lim hx _), fz_lim hx _⟩
          · exact hp.elim
        · exact hp.elim
    · exact hp _ S' H' vv s2 o2 hv
    · rename_i ob
      split at hp
      · rename_i x hx
        obtain ⟨a, ho, rfl, h0, hs, hl, ha, hob, lm⟩ := hv
        exact hp _ S' H' _ s2 o2 ⟨a, ho, rfl, h0, hs, fun z => hl (List.mem_of_mem_take z), ha, hob.cut (fz_lim hx _), fz_lim hx _⟩
      · exact hp.elim
theorem start_ok {N : List Str} : ∀ {ws : List Pe.W} {vs : List V}, WIss G S L ws vs → EnvOk G S L (ws.map some ++ List.replicate (N.length - ws.length) none) (L2.start N vs) := fun {ws vs} r => by
  have key : ∀ {ws : List Pe.W} {vs : List V}, WIss G S L ws vs → ∀ (i : Nat) w, (ws.map some)[i]? = some (some w) → ∃ v, (vs.map some)[i]? = some (some v) ∧ WIs G S L w v := by
    intro ws
    induction ws with
    | nil => intro vs r i w e; simp at e
    | cons w0 ws ih =>
      intro vs r i w e
      obtain ⟨v, q, rfl, r1, r2⟩ := r
      cases i with
      | zero => simp at e; subst e; exact ⟨v, rfl, r1⟩
      | succ i => exact ih r2 i w (by simpa using e)
  have hlen := r.len
  refine ⟨by unfold L2.start; simp [hlen], fun i w e => ?_⟩
  unfold L2.start
  rcases Nat.lt_or_ge i ws.length with hi | hi
  · rw [List.getElem?_append_left (by simpa using hi)] at e
    rw [List.getElem?_append_left (by simpa [hlen] using hi)]
    exact key r i w e
  · rw [List.getElem?_append_right (by simpa using hi), List.getElem?_replicate] at e
    split at e <;> cases e
/-- a def of the program: its text, its terms -/
structure DefOk (G : Gx) (fn : Str → Str → Option FDef) (c x : Str) (f : Addr) (fd : FuncData) (F : FDef) : Prop where
  fn : fn c x = some F
  ex : ∃ (name qual : Str) (params : Arguments) (body : List Stmt) (scope : Scope) (dvs : List V) (kws : List (Str × V)) (own : List Str) (n : Nat), FunD G.K name qual params body scope dvs kws f fd ∧ FnScope F.ns F.ps scope ∧ trSs (trS F.ns own n scope) body = some F.body
theorem def_ok {fn : Str → Str → Option FDef} {n : Nat} {c x : Str} {f : Addr} {fd : FuncData} {F : FDef} (cf : Cfs G P (callN P fn wf n) k) (d : DefOk G fn c x f fd F) : FnOk G.P G.w G.K G.mg G.base (L2.CX G.P G.w) (k + 2) f fd F.ps (spOf G (callN P fn wf (n + 1)) c x) := by
  obtain ⟨name, qual, params, body, scope, dvs, kws, own, m, FD, SC, TR⟩ := d.ex
  have un : ∀ ws h, callN P fn wf (n + 1) c x ws h = runF P (callN P fn wf n) wf F ws h := fun ws h => by
    show (match fn c x with | some F => runF P (callN P fn wf n) wf F ws h | none => .bad) = _
    rw [d.fn]
  refine FunD.okG FD SC (fun vs H Q E hsp => ?_) fun cdv A outer s H vs Q E hr hsp => ⟨WSs (cxOf (L2.CX G.P G.w) G.P G.w G.K G.mg G.base F.ns qual scope f cdv A outer s H E) body, pssS, ?_⟩
  · obtain ⟨S, L, h, ws, ok, r, hp⟩ := hsp
    rw [un] at hp
    unfold runF at hp
    split at hp
    · rename_i hl; rw [r.len]; exact hl
    · exact hp.elim
  · obtain ⟨S, L, h, ws, ok, r, hp⟩ := hsp
    rw [un] at hp
    unfold runF at hp
    split at hp
    · have g : GoodS G F.ns scope (k + 1) (cxOf (L2.CX G.P G.w) G.P G.w G.K G.mg G.base F.ns qual scope f cdv A outer s H E) (fun cls d _ H => E cls d H) :=
        ⟨⟨rfl, rfl, rfl, rfl, rfl, rfl, SC.nd, rfl, rfl, hr⟩, SC.kind, fun _ _ => rfl, passes_of rfl, takes_of rfl rfl rfl rfl, rfl, rfl⟩
      refine trSs_ok (wf := wf) (fun st s h => trS_ok (wf := wf) cf g m st s h) TR _ _ S L h H ok (start_ok r) _ ?_
      revert hp
      generalize evalSs P (callN P fn wf n) wf F.body (ws.map some ++ List.replicate (F.ns.length - ws.length) none) h = o
      intro hp
      rw [← ok.len] at hp
      cases o with
      | nx ρ h' => exact fun L' S' H' σ' st ok' en' => finish_ok hp L' S' H' .non st ok' rfl
      | rt v h' => exact finish_ok hp
      | exc e ρ h' =>
        intro L' S' H' σ' cls d st ok' en' hx
        have hp' : Post G E L S H (.exc e (if F.keep = true then h' else h'.take L.length) : Out Val) (RV G L S H Q) := hp
        by_cases hk : F.keep = true
        · rw [if_pos hk] at hp'
          exact hp' L' S' H' cls d st ok' hx
        · rw [if_neg hk] at hp'
          exact hp' _ S' H' cls d st.cut (ok'.cut _) hx
      | bk ρ h' => exact hp.elim
      | ct ρ h' => exact hp.elim
      | bad => exact hp.elim
    · exact hp.elim
end
end Pe
set_option maxHeartbeats 4000000
namespace Pe
open PySem PySem.Spec PyProof.Rows L2
/-! ## all defs of the program, by depth -/
section
variable {G : Gx} {P : Prog} {fn : Str → Str → Option FDef} {wf : Nat}
/-- the def x of the class c (or of the module) stands at f -/
def DefAt (G : Gx) (fn : Str → Str → Option FDef) (c x : Str) (f : Addr) : Prop := ∃ fd F, DefOk G fn c x f fd F ∧ Binds G.K fd F.ps []
structure ClsS (G : Gx) (P : Prog) (fn : Str → Str → Option FDef) (c : Str) (d : CDef) : Prop where
  ct : ClsT G.K (clsAt G.mg c)
  mg : G.mg c = some (.ref (clsAt G.mg c))
  two : ∀ c' d', P.cls c' = some d' → PySem.W.kitOne G.K (.ref (clsAt G.mg c')) (.ref (clsAt G.mg c)) = some (decide (c' = c)) ∧ PySem.W.notFirst G.K (clsAt G.mg c) (.ref (clsAt G.mg c')) = true
  init : P.isFn c "__init__" = true → ∃ f, Mk G.K (clsAt G.mg c) f ∧ DefAt G fn c "__init__" f
  meth : ∀ m, P.isFn c m = true → m ∉ d.props → ∃ f, Meth G.K (clsAt G.mg c) m f ∧ DefAt G fn c m f
  spec : ∀ m, P.isFn c m = true → m = "__eq__" ∨ m = "__len__" → ∃ f, OwnM G.K (clsAt G.mg c) m f ∧ DefAt G fn c m f
  ne : P.isFn c "__eq__" = true → OwnNe G.K (clsAt G.mg c)
  prop : ∀ f ∈ d.props, P.isFn c f = true → ∃ p g, PropOf G.K (clsAt G.mg c) f p g ∧ DefAt G fn c f g
  noat : ∀ f ∈ d.fields, NoAttr G.K (clsAt G.mg c) f
  kb : ∀ t ∈ sevenT, PySem.W.kitOne G.K (.ref (clsAt G.mg c)) (.type t) = some false
/-- how a class takes keywords, by its def's text -/
def KwS (G : Gx) (fn : Str → Str → Option FDef) (c : Str) (n : Nat) (ks : List Str) (arr : List Src) : Prop := ∃ (f : Addr) (fd : FuncData) (F : FDef) (g : List Value → List Value → List Value) (gV : List V → List V → List V), Mk G.K (clsAt G.mg c) f ∧ DefOk G fn c "__init__" f fd F ∧ KBn G.K fd F.ps (n + 1) ks g gV ∧ (∀ v vs zs, vs.length = n → zs.length = ks.length → gV (v :: vs) zs = v :: arrV D.v0 vs zs arr) ∧ arr.all Src.plain = true
/-- what the head must tell -/
structure Facts (G : Gx) (P : Prog) (fn : Str → Str → Option FDef) : Prop extends PF G P where
  fn_ : ∀ x, P.isFn "" x = true → ∃ f, G.mg x = some (.ref f) ∧ PySem.W.keepIn G.K (.ref f) = true ∧ DefAt G fn "" x f
  cls : ∀ c d, P.cls c = some d → ClsS G P fn c d
  noisi : G.mg "isinstance" = none
  kw : ∀ c n ks arr, P.kwa c n ks = some arr → (P.cls c).isSome = true → KwS G fn c n ks arr
  xc : ∀ x d, P.exc x = some d → d.fields = [] → XcF G x
  exm : ∀ c d k d', P.exc c = some d → P.exc k = some d' → G.mg c = some (.ref (clsAt G.mg c)) ∧ PySem.W.exmOne G.K (.ref (clsAt G.mg k)) (.ref (clsAt G.mg c)) = some (catches P c k)
theorem cfs_by {cl : Cl} {k : Nat} (F : Facts G P fn) (hk : ∀ c f fd D, DefOk G fn c "__init__" f fd D → FnOk G.P G.w G.K G.mg G.base (L2.CX G.P G.w) k f fd D.ps (spOf G cl c "__init__")) (hf : ∀ c x f, DefAt G fn c x f → GFn G k f (spOf G cl c x)) (hp : ∀ c x f, DefAt G fn c x f → ∃ fd ps, Binds G.K fd ps [] ∧ FnOk G.P G.w G.K G.mg G.base (L2.CX G.P G.w) k f fd ps (spOf G cl c x)) : Cfs G P cl k where
  con := F.con
  free := F.free
  fn := fun x hx => let ⟨f, h1, h2, h3⟩ := F.fn_ x hx; ⟨f, h1, h2, hf _ _ _ h3⟩
  cls := fun c d hd => by
    have q := F.cls c d hd
    exact ⟨q.ct, q.mg, q.two, fun h => let ⟨f, a, b⟩ := q.init h; ⟨f, a, hf _ _ _ b⟩, fun m h1 h2 => let ⟨f, a, b⟩ := q.meth m h1 h2; ⟨f, a, hf _ _ _ b⟩, fun m h1 h2 => let ⟨f, a, b⟩ := q.spec m h1 h2; ⟨f, a, hf _ _ _ b⟩, q.ne,
      fun f h1 h2 => let ⟨p, g, a, b⟩ := q.prop f h1 h2; let ⟨fd, ps, b1, b2⟩ := hp _ _ _ b; ⟨p, g, fd, ps, a, b1, b2⟩, q.noat, q.kb⟩
  noisi := F.noisi
  kw := fun c n ks arr h1 h2 => let ⟨f, fd, D, g, gV, a, b, q, r, t⟩ := F.kw c n ks arr h1 h2; ⟨f, fd, D.ps, g, gV, a, hk _ _ _ _ b, q, r, t⟩
  xc := F.xc
  exm := F.exm
theorem cfs_ok (F : Facts G P fn) : ∀ n, Cfs G P (callN P fn wf n) (2 * n)
  | 0 => cfs_by F (fun c f fd D _ => ⟨fun vs H Q E h => by
        obtain ⟨S, L, hh, ws, _, _, hp⟩ := h
        exact hp.elim, fun A outer s H args us vs Q E _ _ _ _ h => by
        obtain ⟨S, L, hh, ws, _, _, hp⟩ := h
        exact hp.elim⟩) (fun c x f _ A outer s H us vs Q E hr e0 r h => by
      obtain ⟨S, L, hh, ws, _, _, hp⟩ := h
      exact hp.elim) fun c x f ⟨fd, D, d, b⟩ => ⟨fd, D.ps, b, ⟨fun vs H Q E h => by
        obtain ⟨S, L, hh, ws, _, _, hp⟩ := h
        exact hp.elim, fun A outer s H args us vs Q E _ _ _ _ h => by
        obtain ⟨S, L, hh, ws, _, _, hp⟩ := h
        exact hp.elim⟩⟩
  | n + 1 => by
    have cf := cfs_ok F n
    refine cfs_by F (fun c f fd D d => def_ok cf d) (fun c x f ⟨fd, D, d, b⟩ => ?_) fun c x f ⟨fd, D, d, b⟩ => ⟨fd, D.ps, b, def_ok cf d⟩
    have := (def_ok cf d).raw b (dvs := []) .nil
    exact this.imp fun vs H Q E h => by rw [List.append_nil]; exact h
end
end Pe
set_option maxHeartbeats 4000000
namespace Pe
open PySem L2
/-! ### a printer of terms -/
def pStr (s : Str) : String := (repr s.toString : Std.Format).pretty 1000000
def pInt (i : Int) : String := if i < 0 then s!"({i})" else s!"{i}"
def pL (xs : List String) : String := "[" ++ String.intercalate ", " xs ++ "]"
mutual
def qD : D → String
  | .non => ".non"
  | .bl b => s!"(.bl {b})"
  | .int i => s!"(.int {pInt i})"
  | .str s => s!"(.str {pStr s})"
  | .tup xs => s!"(.tup {pL (qDs xs)})"
  | .lst xs => s!"(.lst {pL (qDs xs)})"
  | .cls c => s!"(.cls {pStr c})"
  | _ => "UNKNOWN"
def qDs : List D → List String
  | [] => []
  | x :: xs => qD x :: qDs xs
end
def pTy : Ty → String
  | .int => ".int" | .bool => ".bool" | .str => ".str" | .list => ".list" | .tuple => ".tuple" | .dict => ".dict"
  | .own c => s!"(.own {pStr c})"
def pBin : Operator → String
  | .Add => ".Add" | .Sub => ".Sub" | .Mult => ".Mult" | .FloorDiv => ".FloorDiv" | .Mod => ".Mod" | .Pow => ".Pow" | _ => ".UNKNOWN"
def pCmp : CmpOp → String
  | .Eq => ".Eq" | .NotEq => ".NotEq" | .Lt => ".Lt" | .LtE => ".LtE" | .Gt => ".Gt" | .GtE => ".GtE" | .Is => ".Is" | .IsNot => ".IsNot" | .In => ".In" | .NotIn => ".NotIn"
def pTg : Tg → String
  | .name i => s!"(.name {i})"
  | .tup ts => s!"(.tup {pL (ts.map toString)})"
mutual
def pM : M → String
  | .var i => s!"(.var {i})"
  | .con x => s!"(.con {qD x})"
  | .glob x => s!"(.glob {pStr x})"
  | .bin op a b => s!"(.bin {pBin op} {pM a} {pM b})"
  | .neg a => s!"(.neg {pM a})"
  | .cmp op a b => s!"(.cmp {pCmp op} {pM a} {pM b})"
  | .chain op op' a b c => s!"(.chain {pCmp op} {pCmp op'} {pM a} {pM b} {pM c})"
  | .not a => s!"(.not {pM a})"
  | .and a b => s!"(.and {pM a} {pM b})"
  | .or a b => s!"(.or {pM a} {pM b})"
  | .ife c a b => s!"(.ife {pM c} {pM a} {pM b})"
  | .tup es => s!"(.tup {pL (pMs es)})"
  | .lst es => s!"(.lst {pL (pMs es)})"
  | .lstS a es => s!"(.lstS {pM a} {pL (pMs es)})"
  | .callK x es ks vs => s!"(.callK {pStr x} {pL (pMs es)} {pL (ks.map pStr)} {pL (pMs vs)})"
  | .dnew => ".dnew"
  | .call x es => s!"(.call {pStr x} {pL (pMs es)})"
  | .isi a t => s!"(.isi {pM a} {pTy t})"
  | .meth o m es => s!"(.meth {pM o} {pStr m} {pL (pMs es)})"
  | .bm o m es => s!"(.bm {pM o} {pStr m} {pL (pMs es)})"
  | .attr o f => s!"(.attr {pM o} {pStr f})"
  | .sub o i => s!"(.sub {pM o} {pM i})"
  | .slice o lo hi => s!"(.slice {pM o} {pMo lo} {pMo hi})"
  | .lc e t w c => s!"(.lc {pM e} {pTg t} {pW w} {pMo c})"
  | .dc k v t w c => s!"(.dc {pM k} {pM v} {pTg t} {pW w} {pMo c})"
  | .dcR k v t w => s!"(.dcR {pM k} {pM v} {pTg t} {pW w})"
  | .settle e => s!"(.settle {pM e})"
  | .pick es i => s!"(.pick {pL (pMs es)} {pM i})"
def pMs : List M → List String
  | [] => []
  | x :: xs => pM x :: pMs xs
def pMo : Option M → String
  | none => "none"
  | some x => s!"(some {pM x})"
def pW : Wk → String
  | .val e => s!"(.val {pM e})"
  | .range e => s!"(.range {pM e})"
  | .range2 a b => s!"(.range2 {pM a} {pM b})"
  | .items e => s!"(.items {pM e})"
  | .values e => s!"(.values {pM e})"
  | .enum e => s!"(.enum {pM e})"
end
mutual
def pS : S → String
  | .asg t o e => s!".asg {pTg t} {o} {pM e}"
  | .parO ts os es => s!".parO {pL (ts.map toString)} {pL (os.map toString)} {pL (pMs es)}"
  | .unp ts e => s!".unp {pL (ts.map toString)} {pM e}"
  | .par i j oi oj a b => s!".par {i} {j} {oi} {oj} {pM a} {pM b}"
  | .setA o f own e => s!".setA {pM o} {pStr f} {own} {pM e}"
  | .setI o i e => s!".setI {pM o} {pM i} {pM e}"
  | .augN i op e => s!".augN {i} {pBin op} {pM e}"
  | .augI o i op e => s!".augI {pM o} {pM i} {pBin op} {pM e}"
  | .expr e => s!".expr {pM e}"
  | .ret e => s!".ret {pMo e}"
  | .ife c a b => s!".ife {pM c} {pL (pSs a)} {pL (pSs b)}"
  | .forr t w b => s!".forr {pTg t} {pW w} {pL (pSs b)}"
  | .whil c b => s!".whil {pM c} {pL (pSs b)}"
  | .brk => ".brk"
  | .cont => ".cont"
  | .pass => ".pass"
  | .nope => ".nope"
  | .raise c es => s!".raise {pStr c} {pL (pMs es)}"
  | .tryy b hs => s!".tryy {pL (pSs b)} {pL (pHs hs)}"
def pSs : List S → List String
  | [] => []
  | x :: xs => pS x :: pSs xs
def pHs : List Hd → List String
  | [] => []
  | .mk c i b :: xs => s!"(.mk {pStr c} {match i with | none => "none" | some j => s!"(some {j})"} {pL (pSs b)})" :: pHs xs
end
def pBody (b : Option (List S)) : String := match b with
  | none => "NONE"
  | some l => "[" ++ String.intercalate ",\n  " (pSs l) ++ "]"
/-- the first statement that has no terms, for the one who looks -/
def firstBad (N own : List Str) (n : Nat) (sc : Scope) : List Stmt → Option Nat
  | [] => none
  | s :: r => match trS N own n sc s with
    | none => some 0
    | some _ => (firstBad N own n sc r).map (· + 1)
end Pe
set_option maxHeartbeats 4000000
namespace Pe
open PySem PySem.Spec PyProof.Rows L2
/-- one def: where it stands (by a look at the written part), its text, its defaults -/
structure DefE where
  adr : PySem.W.Frag → Addr
  name : Str
  qual : Str
  params : Arguments
  body : List Stmt
  scope : Scope
  dfl : List He.Dv := []
  kwd : List (Str × He.Dv) := []
def DefE.dvs (K : PySem.W.Frag) (d : DefE) : List V := d.dfl.map (He.Dv.v K)
def DefE.kws (K : PySem.W.Frag) (d : DefE) : List (Str × V) := d.kwd.map fun q => (q.1, q.2.v K)
def fnE (K : PySem.W.Frag) (a : Addr) : He.FnW := match K.lookup a with
  | some ⟨_, _, .func fd, _⟩ => some (fd.name, fd.qualname, fd.params, fd.body, fd.scope, fd.globals, fd.closure, fd.builtins)
  | _ => none
def DefE.val (d : DefE) : He.FnW := some (d.name, d.qual, d.params, .stmts d.body, d.scope, mainGlobals, [], builtinsNs)
def DefE.ok (K : PySem.W.Frag) (d : DefE) : Bool := PySem.W.keepIn K (.ref (d.adr K)) && (match K.lookup (d.adr K) with
  | some ⟨_, _, .func fd, _⟩ => PySem.W.codeIn K fd.code d.qual && (He.dflB K fd.defaults (d.dvs K) && He.kwdB K fd.kwdefaults (d.kws K))
  | _ => false)
theorem DefE.funD {K : PySem.W.Frag} {d : DefE} (e : fnE K (d.adr K) = d.val) (c : d.ok K = true) : ∃ fd, FunD K d.name d.qual d.params d.body d.scope (d.dvs K) (d.kws K) (d.adr K) fd := by
  obtain ⟨kp, c2⟩ := He.ba c
  unfold fnE at e
  cases q : K.lookup (d.adr K) with
  | none => rw [q] at c2; cases c2
  | some o =>
    obtain ⟨oc, od, dt, osl⟩ := o
    rw [q] at c2 e
    cases dt with
    | func fd =>
      obtain ⟨n1, n2, n3, n4, n5, n6, n7, n8, n9, n10, n11, n12, n13, n14, n15⟩ := fd
      have e2 : (some (n1, n2, n3, n4, n5, n6, n7, n15) : He.FnW) = some (d.name, d.qual, d.params, .stmts d.body, d.scope, mainGlobals, [], builtinsNs) := e
      simp only [Option.some.injEq, Prod.mk.injEq] at e2
      obtain ⟨h1, h2, h3, h4, h5, h6, h7, h8⟩ := e2
      subst h1 h2 h3 h4 h5 h6 h7 h8
      have c3 : (PySem.W.codeIn K n13 d.qual && (He.dflB K n8 (d.dvs K) && He.kwdB K n9 (d.kws K))) = true := c2
      obtain ⟨k1, k2⟩ := He.ba c3
      obtain ⟨k3, k4⟩ := He.ba k2
      exact ⟨_, ⟨oc, od, n8, n9, n10, n11, n12, n13, n14, osl, rfl, q, k1, He.dflB_ok k3, He.kwdB_ok k4⟩, kp⟩
    | _ => cases c2
abbrev Fact := PySem.W.Frag → Bool
abbrev AlE : Type := Bool × List He.FnW
def obsF (fa : List Fact) (fn : List DefE) (K : PySem.W.Frag) : AlE := ((fa.all fun f => f K) && fn.all fun d => d.ok K, fn.map fun d => fnE K (d.adr K))
def valF (fn : List DefE) : AlE := (true, fn.map DefE.val)
def SaysF (fa : List Fact) (fn : List DefE) (K : PySem.W.Frag) : Prop := obsF fa fn K = valF fn
def obsFG (n : Nat) (fa : List Fact) (fn : List DefE) (g : Addr → Option Obj) : AlE := obsF fa fn (He.frG g (cStatics :: He.asD g n))
def hookF (n : Nat) (fa : List Fact) (fn : List DefE) : PySem.W.Hook where
  α := AlE
  obs := fun s => obsFG n fa fn s.heap.get?
  val := fun _ => valF fn
  says := fun _ h => ∃ K : PySem.W.Frag, K.In h ∧ SaysF fa fn K
  of := fun _ _ e => ⟨_, He.frG_in, e⟩
  keeps := fun _ _ _ ⟨K, hK, c⟩ k => ⟨K, PySem.W.Frag.In.keeps hK k, c⟩
theorem obsFG_eq {n : Nat} {fa : List Fact} {fn : List DefE} {g : Addr → Option Obj} {s : Shared} (h : ∀ a, g a = s.heap.get? a) : obsFG n fa fn g = (hookF n fa fn).obs s := by
  have e : g = s.heap.get? := funext h
  rw [e] <;> rfl
section
variable {fa : List Fact} {fn : List DefE} {K : PySem.W.Frag}
theorem SaysF.fact (c : SaysF fa fn K) (i : Nat) {f : Fact} (h : fa[i]? = some f := by rfl) : f K = true := by
  have e1 : ((fa.all fun f => f K) && fn.all fun d => d.ok K) = true := congrArg (fun z : AlE => z.1) c
  exact List.all_eq_true.mp (He.ba e1).1 f (List.mem_of_getElem? h)
theorem SaysF.def_ (c : SaysF fa fn K) (i : Nat) {d : DefE} (h : fn[i]? = some d := by rfl) : ∃ fd, FunD K d.name d.qual d.params d.body d.scope (d.dvs K) (d.kws K) (d.adr K) fd := by
  have e1 : ((fa.all fun f => f K) && fn.all fun d => d.ok K) = true := congrArg (fun z : AlE => z.1) c
  have e2 : fn.map (fun d => fnE K (d.adr K)) = fn.map DefE.val := congrArg (fun z : AlE => z.2) c
  have hm := List.mem_of_getElem? h
  refine DefE.funD ?_ (List.all_eq_true.mp (He.ba e1).2 d hm)
  have h1 : (fn.map fun d => fnE K (d.adr K))[i]? = some (fnE K (d.adr K)) := by rw [List.getElem?_map, h]; rfl
  have h2 : (fn.map DefE.val)[i]? = some d.val := by rw [List.getElem?_map, h]; rfl
  rw [e2, h2] at h1
  exact (Option.some.inj h1).symm
end
end Pe
namespace Pe
open PySem PySem.Spec PyProof.Rows L2
/-- the first field of the record at p (a property's getter, a classmethod's def) -/
def recHead (K : PySem.W.Frag) (p : Addr) (kind : String) : Addr := match PySem.W.recIn K p kind with
  | some (.ref g :: _) => g
  | _ => 0
end Pe
namespace Pe
open PySem PySem.Spec PyProof.Rows L2
/-! ## what a program slice is; all facts of it -/
structure ClsN where
  name : Str
  d : CDef
  ms : List (Str × FDef)
structure Tab where
  fns : List (Str × FDef)
  cls : List ClsN
  exs : List (Str × XDef)
  con : List (Str × D)
  free : List Str
  kwd : List Str := []
  kws : List (Str × Nat × List Str × List Src) := []
def Tab.clsOf : List ClsN → Str → Option ClsN
  | [], _ => none
  | E :: r, c => if E.name = c then some E else Tab.clsOf r c
def Tab.fn (T : Tab) (c x : Str) : Option FDef := if c = "" then alook T.fns x else match Tab.clsOf T.cls c with
  | some E => alook E.ms x
  | none => none
def kwLook : List (Str × Nat × List Str × List Src) → Str → Nat → List Str → Option (List Src)
  | [], _, _, _ => none
  | (c, n, ks, a) :: r, c', n', ks' => if c = c' ∧ n = n' ∧ ks = ks' then some a else kwLook r c' n' ks'
theorem kwLook_mem : ∀ {l : List (Str × Nat × List Str × List Src)} {c : Str} {n : Nat} {ks : List Str} {a : List Src}, kwLook l c n ks = some a → (c, n, ks, a) ∈ l
  | [], _, _, _, _, h => by cases h
  | (c, n, ks, a) :: r, c', n', ks', a', h => by
    unfold kwLook at h
    split at h
    · rename_i e
      obtain ⟨rfl, rfl, rfl⟩ := e
      cases h; exact List.mem_cons_self
    · exact List.mem_cons_of_mem _ (kwLook_mem h)
def Tab.prog (T : Tab) : Prog where
  isFn := fun c x => (T.fn c x).isSome && !(x == "__init__" && T.kwd.contains c)
  cls := fun c => (Tab.clsOf T.cls c).map (·.d)
  exc := fun x => alook T.exs x
  con := fun x => alook T.con x
  free := fun x => T.free.contains x
  kwa := kwLook T.kws
def adrOf (K : PySem.W.Frag) (E : ClsN) (m : Str) : Addr := if m ∈ E.d.props then recHead K (He.ma K (He.ga K E.name) m) "property" else He.ma K (He.ga K E.name) m
def propB (x f : Str) (K : PySem.W.Frag) : Bool := He.eqO (PySem.W.findIn K (.ref (He.ga K x)) f) (some (some (.ref (He.ma K (He.ga K x) f)))) && (He.eqO (PySem.W.specialIn K (.ref (He.ma K (He.ga K x) f)) "__get__") (some (some (.builtin "property.__get__"))) &&
  (PySem.W.takesIn K (.ref (He.ma K (He.ga K x) f)) == some true && (match PySem.W.recIn K (He.ma K (He.ga K x) f) "property" with
    | some (.ref g :: _) => g == recHead K (He.ma K (He.ga K x) f) "property"
    | _ => false)))
theorem propB_ok {x f : Str} {K : PySem.W.Frag} (h : propB x f K = true) : PropOf K (He.ga K x) f (He.ma K (He.ga K x) f) (recHead K (He.ma K (He.ga K x) f) "property") := by
  obtain ⟨h1, h⟩ := He.ba h
  obtain ⟨h2, h⟩ := He.ba h
  obtain ⟨h3, h4⟩ := He.ba h
  refine ⟨He.eqO_ok h1, He.eqO_ok h2, beq_iff_eq.mp h3, ?_⟩
  split at h4
  · rename_i g r e
    rw [e, beq_iff_eq.mp h4]
    exact ⟨r, rfl⟩
  · cases h4
theorem clsAt_ga {mg : Str → Option Value} {x : Str} {K : PySem.W.Frag} (h : mg x = some (.ref (He.ga K x))) : clsAt mg x = He.ga K x := by
  unfold clsAt
  rw [h]
def isSp (m : Str) : Bool := m == "__eq__" || m == "__len__"
def clsB (all : List Str) (E : ClsN) (K : PySem.W.Frag) : Bool := clsTB E.name K &&
  (all.all (fun c' => PySem.W.kitOne K (.ref (He.ga K c')) (.ref (He.ga K E.name)) == some (decide (c' = E.name)) && PySem.W.notFirst K (He.ga K E.name) (.ref (He.ga K c'))) &&
  ((!((alook E.ms "__init__").isSome) || (He.Fa.mkr E.name).ok K) &&
  (E.ms.all (fun p => if p.1 ∈ E.d.props then propB E.name p.1 K else (He.Fa.meth E.name p.1).ok K && (!(isSp p.1) || ownMB E.name p.1 K)) &&
  ((!((alook E.ms "__eq__").isSome) || ownNeB E.name K) &&
  (E.d.props.all (fun f => !(isSp f) && !(f == "__init__")) &&
  (E.d.fields.all (fun f => (He.Fa.noat E.name f).ok K) &&
  sevenT.all (fun t => PySem.W.kitOne K (.ref (He.ga K E.name)) (.type t) == some false)))))))
def excB (x : Str) (d : XDef) (K : PySem.W.Frag) : Bool := !(d.fields.isEmpty) || (He.Fa.exc x).ok K
def exmB (T : Tab) (K : PySem.W.Frag) : Bool := T.exs.all fun p => T.exs.all fun q => PySem.W.exmOne K (.ref (He.ga K q.1)) (.ref (He.ga K p.1)) == some (catches T.prog p.1 q.1)
def valsB : List D → List Value → Bool
  | [], [] => true
  | .int i :: r, .int j _ :: q => decide (i = j) && valsB r q
  | .non :: r, .none :: q => valsB r q
  | _, _ => false
theorem valsB_ok {G : Gx} : ∀ {ds : List D} {us : List Value}, valsB ds us = true → Vals (ds.map D.v0) us ∧ ∀ S, Rps G S ds (ds.map D.v0)
  | [], us, h => by
    cases us with
    | nil => exact ⟨.nil, fun S => rfl⟩
    | cons _ _ => cases h
  | d :: r, us, h => by
    cases us with
    | nil => cases d <;> cases h
    | cons u q =>
      cases d <;> cases u <;> first | (cases h; done) | skip
      · obtain ⟨a, b⟩ := valsB_ok (G := G) (show valsB r q = true from h)
        exact ⟨.cons rfl a, fun S => ⟨.non, _, rfl, rfl, b S⟩⟩
      · rename_i i j t
        obtain ⟨e, h2⟩ := He.ba (show (decide (i = j) && valsB r q) = true from h)
        have e := of_decide_eq_true e
        subst e
        obtain ⟨a, b⟩ := valsB_ok (G := G) h2
        exact ⟨.cons ⟨t, rfl⟩ a, fun S => ⟨.int i, _, rfl, rfl, b S⟩⟩
def seqB (o : Obj) (ds : List D) : Bool := match o.data with
  | .seq its _ => decide (its.size ≤ sizeLine) && valsB ds its.toList
  | _ => false
def tupB (x : Str) (ds : List D) (K : PySem.W.Frag) : Bool := He.eqO (PySem.W.nsIn K mainGlobals x) (some (some (.ref (He.ga K x)))) && (match K.lookup (He.ga K x) with
  | some o => decide (o.cls = .type "tuple") && seqB o ds
  | none => false)
def conB (x : Str) (d : D) (K : PySem.W.Frag) : Bool := match d with
  | .int i => (He.Fa.int x i).ok K
  | .tup ds => tupB x ds K
  | _ => false
theorem conB_ok {G : Gx} {h : Heap} (X : G.K.In h) (N : h.Ns mainGlobals G.mg) {x : Str} {d : D} (c : conB x d G.K = true) : ∃ u v, G.mg x = some u ∧ RelV v u ∧ ∀ S, Rp G S d v := by
  unfold conB at c
  split at c
  · rename_i i
    obtain ⟨t, ht⟩ := He.int_ok X N c
    exact ⟨.int i t, .int i, ht, ⟨t, rfl⟩, fun S => rfl⟩
  · rename_i ds
    obtain ⟨c1, c2⟩ := He.ba c
    split at c2
    · rename_i o ho
      obtain ⟨c3, c4⟩ := He.ba c2
      unfold seqB at c4
      split at c4
      · rename_i its n hd
        obtain ⟨c5, c6⟩ := He.ba c4
        obtain ⟨v1, v2⟩ := valsB_ok (G := G) c6
        exact ⟨.ref (He.ga G.K x), .ref (He.ga G.K x), PySem.W.mg_of X N (He.eqO_ok c1), rfl, fun S => ⟨_, _, rfl, .inr ⟨o, its, n, ho, of_decide_eq_true c3, hd, of_decide_eq_true c5, v1⟩, v2 S⟩⟩
      · cases c4
    · cases c2
  · cases c
def Tab.ok (T : Tab) (K : PySem.W.Frag) : Bool :=
  T.fns.all (fun p => (He.Fa.glo p.1).ok K && PySem.W.keepIn K (.ref (He.ga K p.1))) &&
  (T.cls.all (fun E => (He.Fa.glo E.name).ok K && clsB (T.cls.map (·.name)) E K) &&
  (T.exs.all (fun p => (He.Fa.glo p.1).ok K && excB p.1 p.2 K) && (exmB T K &&
  (T.con.all (fun p => conB p.1 p.2 K) && (T.free.all (fun x => (He.Fa.free x).ok K) && T.free.contains "isinstance")))))
theorem mkr_of {all : List Str} {E : ClsN} {K : PySem.W.Frag} (h : clsB all E K = true) (hi : (alook E.ms "__init__").isSome = true) : (He.Fa.mkr E.name).ok K = true := by
  have q := (He.ba (He.ba (He.ba h).2).2).1
  rw [hi] at q
  simpa using q
theorem alook_mem {α : Type} : ∀ {l : List (Str × α)} {x : Str} {v : α}, alook l x = some v → (x, v) ∈ l
  | [], _, _, h => by cases h
  | (y, u) :: r, x, v, h => by
    unfold alook at h
    split at h
    · rename_i e; cases h; rw [e]; exact List.mem_cons_self
    · exact List.mem_cons_of_mem _ (alook_mem h)
theorem clsOf_mem : ∀ {l : List ClsN} {c : Str} {E : ClsN}, Tab.clsOf l c = some E → E ∈ l ∧ E.name = c
  | [], _, _, h => by cases h
  | F :: r, c, E, h => by
    unfold Tab.clsOf at h
    split at h
    · rename_i e; cases h; exact ⟨List.mem_cons_self, e⟩
    · exact ⟨List.mem_cons_of_mem _ (clsOf_mem h).1, (clsOf_mem h).2⟩
section
variable {G : Gx} {T : Tab}
theorem facts_ok {h : Heap} (X : G.K.In h) (N : h.Ns mainGlobals G.mg) (ok : T.ok G.K = true) (hd : ∀ p ∈ T.fns, DefAt G T.fn "" p.1 (He.ga G.K p.1)) (hc : ∀ E ∈ T.cls, E.name ≠ "" ∧ ∀ p ∈ E.ms, (p.1 == "__init__" && T.kwd.contains E.name) = true ∨ DefAt G T.fn E.name p.1 (adrOf G.K E p.1)) (hk : ∀ q ∈ T.kws, KwS G T.fn q.1 q.2.1 q.2.2.1 q.2.2.2) : Facts G T.prog T.fn := by
  obtain ⟨o1, ok⟩ := He.ba ok
  obtain ⟨o2, ok⟩ := He.ba ok
  obtain ⟨o3, ok⟩ := He.ba ok
  obtain ⟨o4, ok⟩ := He.ba ok
  obtain ⟨o5, ok⟩ := He.ba ok
  obtain ⟨o6, o7⟩ := He.ba ok
  have fr : ∀ x, T.free.contains x = true → G.mg x = none := fun x hx => He.free_ok X N (List.all_eq_true.mp o6 x (by simpa using hx))
  have gc : ∀ E ∈ T.cls, G.mg E.name = some (.ref (He.ga G.K E.name)) := fun E hE => He.glo_ok X N (He.ba (List.all_eq_true.mp o2 E hE)).1
  have gx : ∀ p ∈ T.exs, G.mg p.1 = some (.ref (He.ga G.K p.1)) := fun p hp => He.glo_ok X N (He.ba (List.all_eq_true.mp o3 p hp)).1
  have fnc : ∀ E ∈ T.cls, Tab.clsOf T.cls E.name = some E → ∀ m, T.prog.isFn E.name m = true → ∃ F, (m, F) ∈ E.ms ∧ alook E.ms m = some F ∧ (m == "__init__" && T.kwd.contains E.name) = false := fun E hE e m hm => by
    have hm0 := Bool.and_eq_true_iff.mp (show ((T.fn E.name m).isSome && !(m == "__init__" && T.kwd.contains E.name)) = true from hm)
    have hm : (T.fn E.name m).isSome = true := hm0.1
    unfold Tab.fn at hm
    rw [if_neg (hc E hE).1, e] at hm
    obtain ⟨F, hF⟩ := Option.isSome_iff_exists.mp hm
    exact ⟨F, alook_mem hF, hF, Bool.not_eq_true'  _ ▸ hm0.2⟩
  refine { con := fun x d hx => ?_, free := fr, fn_ := fun x hx => ?_, cls := fun c d hd' => ?_, noisi := fr _ o7, kw := fun c n ks arr h _ => hk _ (kwLook_mem (show kwLook T.kws c n ks = some arr from h)), xc := fun x d hx hf => ?_, exm := fun c d k d' h1 h2 => ?_ }
  · exact conB_ok X N (List.all_eq_true.mp o5 _ (alook_mem (show alook T.con x = some d from hx)))
  · have hx : (T.fn "" x).isSome = true := (Bool.and_eq_true_iff.mp (show ((T.fn "" x).isSome && !(x == "__init__" && T.kwd.contains "")) = true from hx)).1
    unfold Tab.fn at hx
    rw [if_pos rfl] at hx
    obtain ⟨F, hF⟩ := Option.isSome_iff_exists.mp hx
    have m := alook_mem hF
    obtain ⟨a, b⟩ := He.ba (List.all_eq_true.mp o1 _ m)
    exact ⟨_, He.glo_ok X N a, b, hd _ m⟩
  · obtain ⟨E, hE, rfl⟩ := Option.map_eq_some_iff.mp hd'
    obtain ⟨mE, rfl⟩ := clsOf_mem hE
    obtain ⟨_, q⟩ := He.ba (List.all_eq_true.mp o2 E mE)
    obtain ⟨q1, q⟩ := He.ba q
    obtain ⟨q2, q⟩ := He.ba q
    obtain ⟨q3, q⟩ := He.ba q
    obtain ⟨q4, q⟩ := He.ba q
    obtain ⟨q5, q⟩ := He.ba q
    obtain ⟨q6, q⟩ := He.ba q
    obtain ⟨q7, q8⟩ := He.ba q
    have ga := clsAt_ga (gc E mE)
    have me := List.all_eq_true.mp q4
    have da_ : ∀ m F, (m, F) ∈ E.ms → (m == "__init__" && T.kwd.contains E.name) = false → DefAt G T.fn E.name m (adrOf G.K E m) := fun m F hm hn => by
      rcases (hc E mE).2 _ hm with z | z
      · rw [show (m == "__init__" && T.kwd.contains E.name) = true from z] at hn; cases hn
      · exact z
    have at_ : ∀ m F, (m, F) ∈ E.ms → (m == "__init__" && T.kwd.contains E.name) = false → m ∉ E.d.props → DefAt G T.fn E.name m (He.ma G.K (He.ga G.K E.name) m) := fun m F hm hn hp => by
      have := da_ m F hm hn
      unfold adrOf at this
      rw [if_neg hp] at this
      exact this
    have npr : ∀ m, isSp m = true ∨ m = "__init__" → m ∉ E.d.props := fun m h1 h2 => by
      have := List.all_eq_true.mp q6 m h2
      rcases h1 with h1 | rfl
      · rw [h1] at this; cases this
      · simp at this
    refine ⟨by rw [ga]; exact clsTB_ok q1, by rw [ga]; exact gc E mE, fun c' d' hc' => ?_, fun hi => ?_, fun m hm hp => ?_, fun m hm hs => ?_, fun he => ?_, fun f hf hi => ?_, fun f hf => ?_, fun t ht => ?_⟩
    · obtain ⟨E', hE', rfl⟩ := Option.map_eq_some_iff.mp hc'
      obtain ⟨mE', rfl⟩ := clsOf_mem hE'
      rw [ga, clsAt_ga (gc E' mE')]
      obtain ⟨a, b⟩ := He.ba (List.all_eq_true.mp q2 E'.name (List.mem_map_of_mem mE'))
      exact ⟨beq_iff_eq.mp a, b⟩
    · obtain ⟨F, hF, hl, hn⟩ := fnc E mE hE _ hi
      rw [ga]
      have q3' : (He.Fa.mkr E.name).ok G.K = true := by rw [hl] at q3; simpa using q3
      exact ⟨_, He.mkr_ok q3', at_ _ F hF hn (npr _ (.inr rfl))⟩
    · obtain ⟨F, hF, hl, hn⟩ := fnc E mE hE _ hm
      have := me _ hF
      rw [if_neg hp] at this
      rw [ga]
      exact ⟨_, He.meth_ok (He.ba this).1, at_ _ F hF hn hp⟩
    · obtain ⟨F, hF, hl, hn⟩ := fnc E mE hE _ hm
      have sp : isSp m = true := by rcases hs with rfl | rfl <;> rfl
      have hp := npr m (.inl sp)
      have := me _ hF
      rw [if_neg hp] at this
      have := (He.ba this).2
      rw [sp] at this
      rw [ga]
      exact ⟨_, ownMB_ok (by simpa using this), at_ _ F hF hn hp⟩
    · obtain ⟨F, hF, hl, hn⟩ := fnc E mE hE _ he
      rw [ga]
      exact ownNeB_ok (by rw [hl] at q5; simpa using q5)
    · obtain ⟨F, hF, hl, hn⟩ := fnc E mE hE _ hi
      have := me _ hF
      rw [if_pos hf] at this
      rw [ga]
      have da := da_ _ F hF hn
      unfold adrOf at da
      rw [if_pos hf] at da
      exact ⟨_, _, propB_ok this, da⟩
    · rw [ga]; exact He.noat_ok (List.all_eq_true.mp q7 f hf)
    · rw [ga]; exact beq_iff_eq.mp (List.all_eq_true.mp q8 t ht)
  · have m := alook_mem (show alook T.exs x = some d from hx)
    have ga := clsAt_ga (gx _ m)
    have q := (He.ba (List.all_eq_true.mp o3 _ m)).2
    have q : (He.Fa.exc x).ok G.K = true := by
      unfold excB at q
      rw [hf] at q
      simpa using q
    obtain ⟨h1, h2, h3, h4⟩ := He.exc_ok q
    have ga : clsAt G.mg x = He.ga G.K x := ga
    rw [← ga] at h1 h2 h3 h4
    exact ⟨⟨_, _, _, _, PySem.F.excBase_ValueError, h1⟩, by rw [ga]; exact gx _ m, h2, h3, h4⟩
  · have m := alook_mem (show alook T.exs c = some d from h1)
    have m' := alook_mem (show alook T.exs k = some d' from h2)
    have ga : clsAt G.mg c = He.ga G.K c := clsAt_ga (gx _ m)
    have ga' : clsAt G.mg k = He.ga G.K k := clsAt_ga (gx _ m')
    rw [ga, ga']
    exact ⟨gx _ m, beq_iff_eq.mp (List.all_eq_true.mp (List.all_eq_true.mp o4 _ m) _ m')⟩
end
theorem kw_mk {G : Gx} {T : Tab} {h : Heap} (X : G.K.In h) (N : h.Ns mainGlobals G.mg) (ok : T.ok G.K = true) {E : ClsN} (hE : E ∈ T.cls) (hi : (alook E.ms "__init__").isSome = true) : Mk G.K (clsAt G.mg E.name) (He.ma G.K (He.ga G.K E.name) "__init__") := by
  obtain ⟨a, b⟩ := He.ba (List.all_eq_true.mp (He.ba (He.ba ok).2).1 E hE)
  rw [clsAt_ga (He.glo_ok X N a)]
  exact He.mkr_ok (mkr_of b hi)
/-! ### a def's text -/
def fnScopeB (N P : List Str) (sc : Scope) : Bool := decide (sc.kind = .function) && (!sc.isCoroutine && (!sc.isGenerator && (decide N.Nodup && (decide (N.take P.length = P) && (P.all (fun x => decide (sc.names.lookup x = some .local) || decide (sc.names.lookup x = some .cell)) && sc.names.all fun y => decide (y.2 ≠ .free))))))
theorem fnScopeB_ok {N P : List Str} {sc : Scope} (h : fnScopeB N P sc = true) : FnScope N P sc := by
  obtain ⟨h1, h⟩ := He.ba h
  obtain ⟨h2, h⟩ := He.ba h
  obtain ⟨h3, h⟩ := He.ba h
  obtain ⟨h4, h⟩ := He.ba h
  obtain ⟨h5, h⟩ := He.ba h
  obtain ⟨h6, h7⟩ := He.ba h
  refine ⟨of_decide_eq_true h1, by simpa using h2, by simpa using h3, of_decide_eq_true h4, of_decide_eq_true h5, fun x hx => ?_, fun y hy => of_decide_eq_true (List.all_eq_true.mp h7 y hy)⟩
  have := List.all_eq_true.mp h6 x hx
  simpa using this
theorem defAt_of {G : Gx} {T : Tab} {c x : Str} {d : DefE} {F : FDef} (own : List Str) (n : Nat) (FD : ∃ fd, FunD G.K d.name d.qual d.params d.body d.scope (d.dvs G.K) (d.kws G.K) (d.adr G.K) fd) (h0 : d.dfl = []) (hf : T.fn c x = some F) (sc : fnScopeB F.ns F.ps d.scope = true) (tr : trSs (trS F.ns own n d.scope) d.body = some F.body)
    (hb : ∀ (kV doc pm : Value) (an : Option Addr) (cdv ct : Value) (us : List Value), us.length = F.ps.length → bindArgs (PySem.W.fnOf d.name d.qual d.params d.body d.scope .none kV doc pm an cdv ct) ⟨us, []⟩ = pure (F.ps.zip us)) : DefAt G T.fn c x (d.adr G.K) := by
  obtain ⟨fd, FD⟩ := FD
  have e : d.dvs G.K = [] := by unfold DefE.dvs; rw [h0]; rfl
  rw [e] at FD
  exact ⟨fd, F, ⟨hf, _, _, _, _, _, _, _, own, n, FD, fnScopeB_ok sc, tr⟩, FunD.bindsN FD hb⟩
end Pe
namespace Pe
open PySem PySem.Spec PyProof.Rows L2
/-- keyword-only parameters alone have defaults -/
theorem kwS_of {G : Gx} {T : Tab} {c : Str} {d : DefE} {F : FDef} (own : List Str) (m : Nat) (n : Nat) (ks : List Str) (ms : List (Str × V)) (arr : List Src) (gg : {α : Type} → List α → List α → List α → List α) (mk : Mk G.K (clsAt G.mg c) (d.adr G.K))
    (FD : ∃ fd, FunD G.K d.name d.qual d.params d.body d.scope (d.dvs G.K) (d.kws G.K) (d.adr G.K) fd) (h0 : d.dfl = []) (kws : List (Str × V)) (h1 : d.kws G.K = kws) (h2 : kws ≠ []) (h3 : ∀ q ∈ ms, q ∈ kws) (hf : T.fn c "__init__" = some F) (sc : fnScopeB F.ns F.ps d.scope = true) (tr : trSs (trS F.ns own m d.scope) d.body = some F.body)
    (hrel : ∀ {vs mz zs : List V} {us mv ws : List Value}, Vals vs us → Vals mz mv → Vals zs ws → Vals (gg vs mz zs) (gg us mv ws))
    (hb : ∀ (D : Addr) (doc pm : Value) (an : Option Addr) (cdv ct : Value) (us mv ws : List Value), us.length = n + 1 → mv.length = ms.length → ws.length = ks.length →
      KwChain D ((ms.map (·.1)).zip mv) (bindArgs (PySem.W.fnOf d.name d.qual d.params d.body d.scope .none (.ref D) doc pm an cdv ct) ⟨us, ks.zip ws⟩) (F.ps.zip (gg us mv ws)))
    (hg : ∀ v vs zs, vs.length = n → zs.length = ks.length → gg (v :: vs) (ms.map (·.2)) zs = v :: arrV D.v0 vs zs arr) (ha : arr.all Src.plain = true) : KwS G T.fn c n ks arr := by
  obtain ⟨fd, FD⟩ := FD
  have e : d.dvs G.K = [] := by unfold DefE.dvs; rw [h0]; rfl
  rw [e, h1] at FD
  obtain ⟨mv, kb⟩ := FunD.kbinds0 FD (n + 1) ks ms gg h2 h3 hrel hb
  exact ⟨_, fd, F, _, _, mk, ⟨hf, _, _, _, _, _, _, _, own, m, FD, fnScopeB_ok sc, tr⟩, kb, hg, ha⟩
end Pe
set_option maxHeartbeats 4000000
namespace Pe
open PySem PySem.Spec PyProof.Rows L2
/-! ## the law's def -/
theorem rps_scr {G : Gx} {S : Hp} : ∀ ns : List Int, Rps G S (ns.map .int) (ns.map V.int)
  | [] => rfl
  | i :: r => ⟨.int i, r.map V.int, rfl, rfl, rps_scr r⟩
theorem law_sp {G : Gx} {cl : Cl} {H : Hp} {a : Addr} {ns : List Int} (hS : SqL G.K H a (ns.map V.int)) (e : ∃ h', cl "" "law" [.d (.lst (ns.map .int))] [] = .ok (vB true) h') {E : XK} : spOf G cl "" "law" [.ref a] H (fun v _ => v = .bl true) E := by
  obtain ⟨h', e⟩ := e
  let S : Hp := fun b => if b = a then H a else none
  have sub : Ext S H := fun b o q => by
    have q : (if b = a then H a else none) = some o := q
    split at q
    · rename_i z; rw [z]; exact q
    · cases q
  have sq : SqL G.K S a (ns.map V.int) := by
    have ea : S a = H a := if_pos rfl
    rcases hS with (h | ⟨o, h⟩) | h
    · exact .inl (.inl (ea.trans h))
    · exact .inl (.inr ⟨o, ea.trans h⟩)
    · exact .inr h
  refine ⟨S, [], [], [.d (.lst (ns.map .int))], ⟨sub, rfl, List.nodup_nil, fun n a c e _ _ => by simp at e, fun n c e => by simp at e, fun n a c e => by simp at e⟩, ⟨.ref a, [], rfl, ⟨a, _, rfl, sq, rps_scr ns⟩, rfl⟩, ?_⟩
  rw [e]
  exact fun L' S' H' vv _ _ hv => hv
/-- a promise that asks for no exception, where none is told -/
theorem ok_calm {P : Program} {w : World} {K : PySem.W.Frag} {mg : Str → Option Value} {base : Heap} {k : Nat} {f : Addr} {fd : FuncData} {ps : List Str} {sp : Sp} (hE : ∀ vs H Q E E', sp vs H Q E → sp vs H Q E') (F : FnOk P w K mg base (L2.CX P w) k f fd ps sp) : FnOk P w K mg base (fun _ _ _ _ _ _ => False) k f fd ps sp :=
  ⟨F.len, fun A outer s H args us vs Q E hr he hb hv hs => codeAny_mono (F.run A outer s H args us vs Q (fun _ _ _ => False) hr he hb hv (hE _ _ _ _ _ hs)) fun r s' h => by
    cases r with
    | error e =>
      obtain ⟨_, _, _, _, _, _, _, _, _, _, _, _, z⟩ := h
      exact z
    | ok v => cases v <;> exact h⟩
def spLaw (P : Program) (w : World) (K : PySem.W.Frag) (mg : Str → Option Value) (cl : Cl) : Sp := fun vs H Q _ => ∀ base E, spOf ⟨P, w, K, mg, base⟩ cl "" "law" vs H Q E
theorem law_ok {P0 : Program} {w : World} {K : PySem.W.Frag} {mg : Str → Option Value} {base : Heap} {P : Prog} {fn : Str → Str → Option FDef} {wf n : Nat} {f : Addr} {fd : FuncData} {F : FDef} (fa : Facts ⟨P0, w, K, mg, base⟩ P fn) (d : DefOk ⟨P0, w, K, mg, base⟩ fn "" "law" f fd F) (ps : F.ps = [("script" : Str)]) :
    FnOk P0 w K mg base (fun _ _ _ _ _ _ => False) (2 * n + 2) f fd ["script"] (spLaw P0 w K mg (callN P fn wf (n + 1))) := by
  rw [← ps]
  exact ok_calm (fun vs H Q E E' h => h) ((def_ok (cfs_ok fa n) d).imp fun vs H Q E h => h base E)
/-- the script's list, as it lies ahead of the law -/
theorem scr_hide {K : PySem.W.Frag} {P : Program} {w : World} {h : Heap} {a : Addr} {vs : List Value} {ns : List Int} (KX : K.In h) (ha : h.get? a = some { cls := .type "list", data := .seq vs.toArray }) (rv : Vals (ns.map V.int) vs) (hl : ns.length ≤ sizeLine) :
    ∃ H : Hp, Only H ∧ SqL K H a (ns.map V.int) ∧ HOk P w H h ∧ (∀ b, H b ≠ none → b = a) ∧ (H a ≠ none → K.lookup a = none) := by
  have lv : vs.length = ns.length := by rw [← rv.length, List.length_map]
  cases hk : K.lookup a with
  | some o =>
    have e := KX a o hk
    rw [ha] at e
    cases e
    exact ⟨fun _ => none, fun _ => .inl rfl, .inr ⟨_, vs.toArray, _, hk, rfl, rfl, rfl, by rw [List.size_toArray, lv]; exact hl, by simpa using rv⟩, fun b u z => (by cases z), fun b z => absurd rfl z, fun z => absurd rfl z⟩
  | none =>
    refine ⟨fun b => if b = a then some (.frz { cls := .type "list", data := .seq vs.toArray } (.lst (ns.map V.int))) else none, fun b => ?_, .inl (.inr ⟨_, if_pos rfl⟩), fun b u z => ?_, fun b z => ?_, fun _ => rfl⟩
    · exact (Decidable.em (b = a)).elim (fun e => .inr ⟨_, _, if_pos e⟩) fun e => .inl (if_neg e)
    · rcases Decidable.em (b = a) with e | e
      · have z' := (if_pos e).symm.trans z
        cases z'
        subst e
        exact ⟨ha, by rw [List.length_map]; exact hl, vs, _, rv, ha⟩
      · have z' := (if_neg e).symm.trans z
        cases z'
    · exact Decidable.byContradiction fun e => z (if_neg e)
/-- the law's call -/
theorem law_callG {P : Program} {w : World} {K : PySem.W.Frag} {mg mb : Str → Option Value} {k : Nat} {fa a : Addr} {fd : FuncData} {x : Str} {sp : Sp} {s1 : Shared} {vs : List Value} {ns : List Int}
    (KX : K.In s1.heap) (gm : s1.heap.Ns mainGlobals mg) (gb : s1.heap.Ns builtinsNs mb) (bb : ∀ x : Str, x ≠ "__name__" → mb x = bootBuiltins x) (lim : s1.heap.NoLimit) (hg : s1.gens = #[])
    (ha : s1.heap.get? a = some { cls := .type "list", data := .seq vs.toArray }) (hi : IntsAre vs ns) (hl : ns.length ≤ sizeLine) (hr : Room k callerA)
    (F : ∀ base : Heap, K.In base → base.Ns mainGlobals mg → FnOk P w K mg base (fun _ _ _ _ _ _ => False) k fa fd [x] sp) (bd : ∀ (s : Shared) (u : Value), BindsTo s fd ⟨[u], []⟩ [(x, u)])
    (hsp : ∀ H : Hp, Only H → SqL K H a (ns.map V.int) → sp [.ref a] H (fun v _ => v = .bl true) fun _ _ _ => False) :
    codeAny (model P w) callerA (.call (.ref fa) ⟨[.ref a], []⟩) (fun r s' => r = .ok (.ret (.bool true)) ∧ OldK s1.heap s'.heap ∧ s'.os = s1.os ∧ AllBare s'.gens) s1 := by
  obtain ⟨H, only, sq, ok, one, off⟩ := scr_hide (P := P) (w := w) KX ha (vals_ints hi) hl
  have isA : ∀ {b : Addr}, H b ≠ none → b = a := fun {b} z => one b z
  have free : ∀ {b : Addr} {o : Obj} {es : Array DictEntry} {ep : Nat}, s1.heap.get? b = some o → o.data = .dict es ep → H b = none := fun {b o es ep} e d => by
    rcases Decidable.em (H b = none) with z | z
    · exact z
    · have eb := isA z
      subst eb
      rw [ha] at e; cases e
      have d' : Data.seq vs.toArray _ = Data.dict es ep := d
      cases d'
  have nsT : ∀ {b : Addr} {m : Str → Option Value}, s1.heap.Ns b m → (hidT s1.heap H).Ns b m := fun {b m} ⟨o, es, ep, e, d, r⟩ => ⟨o, es, ep, hidT_get e (free e d), d, r⟩
  have inT : K.In (hidT s1.heap H) := fun b o e => hidT_get (KX b o e) (by
    rcases Decidable.em (H b = none) with z | z
    · exact z
    · have eb := isA z
      subst eb
      rw [off z] at e; cases e)
  have md : Mod K mg (hidT s1.heap H) := ⟨inT, nsT gm, ⟨mb, nsT gb, bb⟩, lim.imp fun _ z => ⟨nsT z.1, z.2⟩⟩
  have e0 : Env0 P w K mg (hidT s1.heap H) callerA [] s1 H := ⟨rfl, md, fun b o e => of_hidT e, Nat.le_of_eq (hidT_size _ _), trivial, fun b hb => (by cases hb), ok, .of_eq hg⟩
  have run := (F _ inT (nsT gm)).run callerA [] s1 H ⟨[.ref a], []⟩ [.ref a] [.ref a] _ _ hr e0 (bd s1 (.ref a)) (.cons rfl .nil) (hsp H only sq)
  refine codeAny_mono run fun r s' z => ?_
  match r, z with
  | .error e, z => exact z.elim
  | .ok .next, z => exact z.elim
  | .ok .brk, z => exact z.elim
  | .ok .cont, z => exact z.elim
  | .ok (.ret u), z =>
    obtain ⟨v, H', os, bare, un, ok', rv, q⟩ := z
    subst q
    obtain rfl : u = Value.bool true := rv
    refine ⟨rfl, OldK.of_keep fun b o e => ?_, os, bare⟩
    rcases only b with n | ⟨ob, xs, z⟩
    · exact un.keep b o e n (fun z => (by cases z)) (fun z => (by cases z))
    · obtain ⟨e1, _⟩ := ok b _ z
      obtain ⟨e2, _⟩ := ok' b _ (un.frzs b ob _ z)
      rw [e] at e1; cases e1
      exact e2
theorem walk_ofG {l : PySem.W.OpenLaw} {n k : Nat} {q : Program} {loose : List Str} {XP : (Str → Option Value) → Heap → Prop} {YP : World → Heap → Prop} {d : DefRec} {x : Str}
    (hn : l.most = some n) (hn2 : n ≤ sizeLine) (hdf : d.params.defaults = []) (hr : Room k callerA)
    (F : ∀ (w : World) (mg : Str → Option Value) (fa : Addr) (h : Heap), YP w h → h.Ns mainGlobals mg → mg d.name = some (.ref fa) →
      ∃ (K : PySem.W.Frag) (fd : FuncData) (sp : Sp), K.In h ∧ (∀ (s : Shared) (u : Value), BindsTo s fd ⟨[u], []⟩ [(x, u)]) ∧
        (∀ (H : Hp) (a : Addr) (ns : List Int), ns.length ≤ n → Only H → SqL K H a (ns.map V.int) → sp [.ref a] H (fun v _ => v = .bl true) fun _ _ _ => False) ∧
        ∀ base : Heap, K.In base → base.Ns mainGlobals mg → FnOk l.prog w K mg base (fun _ _ _ _ _ _ => False) k fa fd [x] sp) :
    PySem.W.WalkO q loose XP YP l.row.toRowW d [] (fun f vs => PySem.call f vs) := by
  refine Att.attach_call hn hdf fun w s0 s1 mg mb fa o pm cd doc a vs ns G Y ho hd hcd hmg hobj hints hlen hg => ?_
  obtain ⟨K, fd, sp, KX, hb, hsp, hF⟩ := F w mg fa _ Y G.T.g hmg
  exact law_callG KX G.T.g G.T.b G.T.builtins G.T.nolimit hg hobj hints (Nat.le_trans hlen hn2) hr hF hb fun H hO hS => hsp H a ns hlen hO hS
theorem allc {α : Type} {p : α → Prop} {a : α} {l : List α} (h : p a) (t : ∀ x ∈ l, p x) : ∀ x ∈ a :: l, p x := List.forall_mem_cons.mpr ⟨h, t⟩
end Pe
set_option maxHeartbeats 4000000
namespace Pe.Pw
open PySem
/-! ## plain side: names are told apart -/
theorem strEq {a b : String} : (Str.ofString a = Str.ofString b) = (a = b) := by
  refine propext ⟨fun h => ?_, fun h => by rw [h]⟩
  rw [Str.ofString_eq_toList, Str.ofString_eq_toList] at h
  have h := congrArg (fun s : Str => s.cps.toList) h
  simp only at h
  have inj : ∀ {x y : List Char}, x.map Char.toNat = y.map Char.toNat → x = y := by
    intro x
    induction x with
    | nil => intro y h; cases y with
      | nil => rfl
      | cons _ _ => simp at h
    | cons c x ih => intro y h; cases y with
      | nil => simp at h
      | cons d y =>
        simp only [List.map_cons, List.cons.injEq] at h
        rw [ih h.2, Char.toNat_inj.mp h.1]
  exact String.toList_inj.mp (inj h)
theorem strBeq {a b : String} : (Str.ofString a == Str.ofString b) = (a == b) := by
  rw [Bool.eq_iff_iff, beq_iff_eq, beq_iff_eq, strEq]
example : ((("ab" : Str) = "abc") = False) := by simp only [strEq, String.reduceEq]
example : ((("ab" : Str) == "abc") = false) := by simp only [strBeq, String.reduceBEq]
/-! ## what goes on behind is hidden from simp: an instance -/
class Hid (α : Type) where
  get : α
def hid {α : Type} [x : Hid α] : α := x.get
theorem hid_app {α β : Type} {f : α → β} {a : α} : hid (x := ⟨f⟩) a = f a := (rfl)
/-! ## results -/
structure Ev where
  P : Prog
  fn : Str → Str → Option FDef
  wf : Nat
def Ev.c (G : Ev) (n : Nat) : Cl := callN G.P G.fn G.wf n
def fin (keep : Bool) (n : Nat) : SOut → Out Val
  | .rt v h => finish keep n v h
  | .nx _ h => finish keep n (vD .non) h
  | .exc e _ h => .exc e (if keep then h else h.take n)
  | _ => .bad
theorem Ev.c_fn {G : Ev} {n : Nat} {c f : Str} {ws : List W} {h : Cells} {F : FDef} (e : G.fn c f = some F) : G.c (n + 1) c f ws h = runF G.P (G.c n) G.wf F ws h := by
  show (match G.fn c f with | some F => runF G.P (callN G.P G.fn G.wf n) G.wf F ws h | none => .bad) = _
  rw [e]; rfl
theorem runF_eq {P : Prog} {cl : Cl} {wf : Nat} {F : FDef} {ws : List W} {h : Cells} : runF P cl wf F ws h = if ws.length = F.ps.length then fin F.keep h.length (evalSs P cl wf F.body (ws.map some ++ List.replicate (F.ns.length - ws.length) none) h) else .bad := by
  unfold runF fin
  split
  · generalize evalSs P cl wf F.body (ws.map some ++ List.replicate (F.ns.length - ws.length) none) h = o
    cases o <;> rfl
  · rfl
theorem Ev.c_run {G : Ev} {n : Nat} {c f : Str} {ws : List W} {h : Cells} {F : FDef} (e : G.fn c f = some F) (l : ws.length = F.ps.length) : G.c (n + 1) c f ws h = fin F.keep h.length (evalSs G.P (G.c n) G.wf F.body (ws.map some ++ List.replicate (F.ns.length - ws.length) none) h) := by
  rw [Ev.c_fn e, runF_eq, if_pos l]
def _root_.Pe.Out.Wp {α : Type} (o : Out α) (Q : α → Cells → Prop) : Prop := match o with
  | .ok a h => Q a h
  | _ => False
theorem _root_.Pe.Out.Wp.elim {α : Type} {o : Out α} {Q : α → Cells → Prop} (h : o.Wp Q) : ∃ a h', o = .ok a h' ∧ Q a h' := by
  cases o with
  | ok a h' => exact ⟨a, h', rfl, h⟩
  | exc _ _ => exact False.elim h
  | bad => exact False.elim h
section
variable {α β γ : Type}
theorem bind_congr {o o' : Out α} {f : α → Cells → Out β} (h : o = o') : o.bind f = o'.bind f := by rw [h]
theorem thenS_congr {o o' : Out α} {ρ : Env} {f : α → Cells → SOut} (h : o = o') : o.thenS ρ f = o'.thenS ρ f := by rw [h]
theorem next_congr {o o' : SOut} {f : Env → Cells → SOut} (h : o = o') : o.next f = o'.next f := by rw [h]
theorem bind_ok {a : α} {h : Cells} {f : α → Cells → Out β} : (Out.ok a h).bind f = f a h := (rfl)
theorem bind_exc {e : Ex} {h : Cells} {f : α → Cells → Out β} : (Out.exc e h).bind f = .exc e h := (rfl)
theorem bind_bad {f : α → Cells → Out β} : (Out.bad).bind f = .bad := (rfl)
theorem bind_bind {o : Out α} {f : α → Cells → Out β} {g : β → Cells → Out γ} : (o.bind f).bind g = o.bind (hid (x := ⟨fun a h => (f a h).bind g⟩)) := by cases o <;> rfl
theorem bind_ite {p : Prop} [Decidable p] {o o' : Out α} {f : α → Cells → Out β} : (if p then o else o').bind f = if p then o.bind f else o'.bind f := by split <;> rfl
theorem thenS_ok {a : α} {h : Cells} {ρ : Env} {f : α → Cells → SOut} : (Out.ok a h).thenS ρ f = f a h := (rfl)
theorem thenS_exc {e : Ex} {h : Cells} {ρ : Env} {f : α → Cells → SOut} : (Out.exc e h).thenS ρ f = .exc e ρ h := (rfl)
theorem thenS_bad {ρ : Env} {f : α → Cells → SOut} : (Out.bad).thenS ρ f = .bad := (rfl)
theorem thenS_bind {o : Out α} {f : α → Cells → Out β} {ρ : Env} {g : β → Cells → SOut} : (o.bind f).thenS ρ g = o.thenS ρ (hid (x := ⟨fun a h => (f a h).thenS ρ g⟩)) := by cases o <;> rfl
theorem thenS_ite {p : Prop} [Decidable p] {o o' : Out α} {ρ : Env} {f : α → Cells → SOut} : (if p then o else o').thenS ρ f = if p then o.thenS ρ f else o'.thenS ρ f := by split <;> rfl
theorem next_thenS {o : Out α} {ρ : Env} {f : α → Cells → SOut} {g : Env → Cells → SOut} : (o.thenS ρ f).next g = o.thenS ρ (hid (x := ⟨fun a h => (f a h).next g⟩)) := by cases o <;> rfl
theorem next_nx {ρ : Env} {h : Cells} {f : Env → Cells → SOut} : (SOut.nx ρ h).next f = f ρ h := (rfl)
theorem next_rt {v : Val} {h : Cells} {f : Env → Cells → SOut} : (SOut.rt v h).next f = .rt v h := (rfl)
theorem next_bk {ρ : Env} {h : Cells} {f : Env → Cells → SOut} : (SOut.bk ρ h).next f = .bk ρ h := (rfl)
theorem next_ct {ρ : Env} {h : Cells} {f : Env → Cells → SOut} : (SOut.ct ρ h).next f = .ct ρ h := (rfl)
theorem next_exc {e : Ex} {ρ : Env} {h : Cells} {f : Env → Cells → SOut} : (SOut.exc e ρ h).next f = .exc e ρ h := (rfl)
theorem next_bad {f : Env → Cells → SOut} : (SOut.bad).next f = .bad := (rfl)
theorem next_next {o : SOut} {f g : Env → Cells → SOut} : (o.next f).next g = o.next (hid (x := ⟨fun ρ h => (f ρ h).next g⟩)) := by cases o <;> rfl
theorem next_ite {p : Prop} [Decidable p] {o o' : SOut} {f : Env → Cells → SOut} : (if p then o else o').next f = if p then o.next f else o'.next f := by split <;> rfl
theorem fin_rt {k : Bool} {n : Nat} {v : Val} {h : Cells} : fin k n (.rt v h) = finish k n v h := (rfl)
theorem fin_nx {k : Bool} {n : Nat} {ρ : Env} {h : Cells} : fin k n (.nx ρ h) = finish k n (.w (.d .non)) h := (rfl)
theorem fin_exc {n : Nat} {e : Ex} {ρ : Env} {h : Cells} : fin false n (.exc e ρ h) = .exc e (h.take n) := (rfl)
theorem fin_ite {k : Bool} {n : Nat} {p : Prop} [Decidable p] {o o' : SOut} : fin k n (if p then o else o') = if p then fin k n o else fin k n o' := by split <;> rfl
theorem finish_d {n : Nat} {x : D} {h : Cells} : finish false n (.w (.d x)) h = .ok (.w (.d x)) (h.take n) := (rfl)
theorem finish_lst {n : Nat} {xs : List D} {h : Cells} : finish false n (.new (.lst xs)) h = .ok (.new (.lst xs)) (h.take n) := (rfl)
theorem finish_dic {n : Nat} {xs : List (D × D)} {h : Cells} : finish false n (.new (.dic xs)) h = .ok (.new (.dic xs)) (h.take n) := (rfl)
theorem toW_ok {v : Val} {h : Cells} : (Out.ok v h).toW = match v.arg with | some x => .ok x h | none => .bad := (rfl)
theorem toW_w {w : W} {h : Cells} : (Out.ok (.w w) h).toW = .ok w h := (rfl)
theorem toW_lst {xs : List D} {h : Cells} : (Out.ok (.new (.lst xs)) h).toW = .ok (.d (.lst xs)) h := (rfl)
theorem toW_dic {xs : List (D × D)} {h : Cells} : (Out.ok (.new (.dic xs)) h).toW = .ok (.d (.dic xs)) h := (rfl)
theorem toD_d {x : D} {h : Cells} : (Out.ok (.w (.d x)) h).toD = .ok x h := (rfl)
theorem toD_lst {xs : List D} {h : Cells} : (Out.ok (.new (.lst xs)) h).toD = .ok (.lst xs) h := (rfl)
theorem toD_dic {xs : List (D × D)} {h : Cells} : (Out.ok (.new (.dic xs)) h).toD = .ok (.dic xs) h := (rfl)
theorem toB_ok {b : Bool} {h : Cells} : (Out.ok (.w (.d (.bl b))) h).toB = .ok b h := (rfl)
theorem toD_exc {e : Ex} {h : Cells} : (Out.exc e h).toD = .exc e h := (rfl)
theorem toW_exc {e : Ex} {h : Cells} : (Out.exc e h).toW = .exc e h := (rfl)
theorem toB_exc {e : Ex} {h : Cells} : (Out.exc e h).toB = .exc e h := (rfl)
theorem toD_ite {p : Prop} [Decidable p] {o o' : Out Val} : (if p then o else o').toD = if p then o.toD else o'.toD := by split <;> rfl
theorem toW_ite {p : Prop} [Decidable p] {o o' : Out Val} : (if p then o else o').toW = if p then o.toW else o'.toW := by split <;> rfl
theorem toB_ite {p : Prop} [Decidable p] {o o' : Out Val} : (if p then o else o').toB = if p then o.toB else o'.toB := by split <;> rfl
theorem toD_bind {o : Out α} {f : α → Cells → Out Val} : (o.bind f).toD = o.bind (hid (x := ⟨fun a h => (f a h).toD⟩)) := by cases o <;> rfl
theorem toW_bind {o : Out α} {f : α → Cells → Out Val} : (o.bind f).toW = o.bind (hid (x := ⟨fun a h => (f a h).toW⟩)) := by cases o <;> rfl
theorem toB_bind {o : Out α} {f : α → Cells → Out Val} : (o.bind f).toB = o.bind (hid (x := ⟨fun a h => (f a h).toB⟩)) := by cases o <;> rfl
theorem calm_ok {a : α} {h : Cells} : (Out.ok a h).calm = .ok a h := (rfl)
end
/-! ## terms -/
section
variable {P : Prog} {cl : Cl} {ρ : Env} {es : List M} {h : Cells} {x : Str}
theorem evalE_fn (h1 : P.isFn "" x = true) : evalE P cl ρ (.call x es) h = (evalWs P cl ρ es h).bind (hid (x := ⟨fun ws h => cl "" x ws h⟩)) := by
  unfold evalE callOk callM
  rw [if_pos (by rw [h1]; rfl)]
  simp only [h1, if_true]
  rfl
theorem evalE_bl {b : Bf} (h1 : P.isFn "" x = false) (h2 : P.cls x = none) (h3 : P.free x = true) (h4 : Bf.of x = some b) : evalE P cl ρ (.call x es) h = (evalWs P cl ρ es h).bind (hid (x := ⟨fun ws h => blM P cl b ws h⟩)) := by
  unfold evalE callOk callM
  rw [if_pos (by rw [h1, h2]; simp [h3, h4])]
  simp only [h1, h2, h3, h4, if_true, Bool.false_eq_true, if_false]
  rfl
theorem evalE_cl {c : CDef} (h1 : P.isFn "" x = false) (h2 : P.cls x = some c) (h3 : P.isFn x "__init__" = true) : evalE P cl ρ (.call x es) h = (evalWs P cl ρ es h).bind (hid (x := ⟨fun ws h => callM P cl x ws h⟩)) := by
  unfold evalE callOk
  rw [if_pos (by rw [h1, h2]; simp [h3])]
  rfl
end
/-! ## comprehensions, loops -/
theorem lcGo_pure {f : D → Cells → Out (Option D)} (g : D → Option D) {h : Cells} : ∀ {xs acc : List D}, acc.length + xs.length ≤ sizeLine → (∀ x ∈ xs, f x h = .ok (g x) h) → lcGo f xs acc h = .ok (acc ++ xs.filterMap g) h
  | [], acc, _, _ => by simp [lcGo]
  | x :: r, acc, hl, hf => by
    rw [List.length_cons] at hl
    unfold lcGo
    rw [hf x (List.mem_cons_self), bind_ok]
    cases e : g x with
    | none => simp only; rw [lcGo_pure g (by omega) (fun y hy => hf y (List.mem_cons_of_mem _ hy)), List.filterMap_cons, e]
    | some y =>
      simp only
      rw [if_pos (by omega), lcGo_pure g (by simp; omega) (fun y hy => hf y (List.mem_cons_of_mem _ hy)), List.filterMap_cons, e]
      simp
theorem lcGo_map {α : Type} {f : D → Cells → Out (Option D)} {h : Cells} (φ : α → D) (g : α → Option D) : ∀ {l : List α} {acc : List D}, acc.length + l.length ≤ sizeLine → (∀ p ∈ l, f (φ p) h = .ok (g p) h) → lcGo f (l.map φ) acc h = .ok (acc ++ l.filterMap g) h
  | [], acc, _, _ => by simp [lcGo]
  | x :: r, acc, hl, hf => by
    rw [List.length_cons] at hl
    rw [List.map_cons]
    unfold lcGo
    rw [hf x (List.mem_cons_self), bind_ok]
    cases e : g x with
    | none => simp only; rw [lcGo_map φ g (by omega) (fun y hy => hf y (List.mem_cons_of_mem _ hy)), List.filterMap_cons, e]
    | some y =>
      simp only
      rw [if_pos (by omega), lcGo_map φ g (by simp; omega) (fun y hy => hf y (List.mem_cons_of_mem _ hy)), List.filterMap_cons, e]
      simp
theorem lcGo_mapT {α : Type} {f : D → Cells → Out (Option D)} {h : Cells} (φ : α → D) (g : α → D) (l : List α) (hl : l.length ≤ sizeLine) (hf : ∀ p ∈ l, f (φ p) h = .ok (some (g p)) h) : lcGo f (l.map φ) [] h = .ok (l.map g) h := by
  rw [lcGo_map φ (fun x => some (g x)) (by simpa using hl) hf, List.nil_append, List.filterMap_eq_map']
theorem lcGo_mapF {α : Type} {f : D → Cells → Out (Option D)} {h : Cells} (φ : α → D) (b : α → Bool) (g : α → D) (l : List α) (hl : l.length ≤ sizeLine) (hf : ∀ p ∈ l, f (φ p) h = .ok (if b p then some (g p) else none) h) : lcGo f (l.map φ) [] h = .ok ((l.filter b).map g) h := by
  rw [lcGo_map φ (fun x => if b x then some (g x) else none) (by simpa using hl) hf, List.nil_append]
  congr 1
  clear hf hl
  induction l with
  | nil => rfl
  | cons x r ih =>
    rw [List.filterMap_cons, List.filter_cons]
    by_cases e : b x = true
    · simp only [e, if_true, List.map_cons, ih]
    · have e : b x = false := by simpa using e
      simp only [e, Bool.false_eq_true, if_false, ih]
theorem lcGo_wp {f : D → Cells → Out (Option D)} (J : List D → Cells → Prop) : ∀ {xs acc : List D} {h : Cells}, acc.length + xs.length ≤ sizeLine → J acc h → (∀ x ∈ xs, ∀ acc h, J acc h → (f x h).Wp fun y h => match y with | some y => J (acc ++ [y]) h | none => J acc h) → (lcGo f xs acc h).Wp J
  | [], acc, h, _, hj, _ => hj
  | x :: r, acc, h, hl, hj, hs => by
    rw [List.length_cons] at hl
    unfold lcGo
    obtain ⟨y, h', e, hq⟩ := (hs x (List.mem_cons_self) acc h hj).elim
    rw [e, bind_ok]
    cases y with
    | none => exact lcGo_wp J (by omega) hq fun z hz => hs z (List.mem_cons_of_mem _ hz)
    | some y =>
      simp only
      rw [if_pos (by omega)]
      exact lcGo_wp J (by simp; omega) hq fun z hz => hs z (List.mem_cons_of_mem _ hz)
/-- a turn that goes on -/
@[irreducible] def TurnOk (n : Nat) (I : Env → Cells → Prop) : SOut → Prop
  | .nx ρ h => I (Env.keep n ρ) (h.take n)
  | .ct ρ h => I (Env.keep n ρ) (h.take n)
  | _ => False
theorem forGo_ok {n : Nat} {f : D → Env → Cells → SOut} (I : Env → Cells → Prop) : ∀ {xs : List D} {ρ : Env} {h : Cells}, I ρ h → (∀ x ∈ xs, ∀ ρ h, I ρ h → TurnOk n I (f x ρ h)) → ∃ ρ' h', forGo n f xs ρ h = .nx ρ' h' ∧ I ρ' h'
  | [], ρ, h, hi, _ => ⟨ρ, h, rfl, hi⟩
  | x :: r, ρ, h, hi, hs => by
    have q := hs x (List.mem_cons_self) ρ h hi
    unfold TurnOk at q
    unfold forGo
    cases e : f x ρ h with
    | nx ρ' h' => rw [e] at q; exact forGo_ok I q fun y hy => hs y (List.mem_cons_of_mem _ hy)
    | ct ρ' h' => rw [e] at q; exact forGo_ok I q fun y hy => hs y (List.mem_cons_of_mem _ hy)
    | _ => rw [e] at q; exact q.elim
end Pe.Pw
set_option maxHeartbeats 4000000
namespace Pe.Pw
open PySem
def binM (op : Operator) (x y : W) (h : Cells) : Out Val := match x.rdu h, y.rdu h with
  | some p, some q => match binD op p q with
    | some v => .ok v h
    | none => .bad
  | _, _ => .bad
def negM (x : D) (h : Cells) : Out Val := match x with
  | .int i => .ok (vI (-i)) h
  | _ => .bad
def chainM (op op' : CmpOp) (x y : D) (c : Cells → Out Val) (h : Cells) : Out Val := match x, y with
  | .int i, .int j => match cmpI op i j with
    | some true => (c h).toD.bind fun z h => match z with
      | .int k => match cmpI op' j k with
        | some r => .ok (vB r) h
        | none => .bad
      | _ => .bad
    | some false => .ok (vB false) h
    | none => .bad
  | _, _ => .bad
def tupM (ds : List D) (h : Cells) : Out Val := if ds.length ≤ sizeLine then .ok (vD (.tup ds)) h else .bad
def lstM (ds : List D) (h : Cells) : Out Val := if ds.length ≤ sizeLine then .ok (.new (.lst ds)) h else .bad
def isiM (P : Prog) (v : Val) (t : Ty) (h : Cells) : Out Val := match v.isi P h t with
  | some b => .ok (vB b) h
  | none => .bad
def subM (x : W) (k : D) (h : Cells) : Out Val := match x.rd h with
  | some q => match subD q k with
    | some z => .ok (vD z) h
    | none => .bad
  | none => match subR h x k with
    | some n => .ok (.w (W.norm h (.r n))) h
    | none => .bad
def cutM (x : W) (l u : Option Int) (h : Cells) : Out Val := match x.rd h with
  | some q => match cutD q l u with
    | some v => .ok v h
    | none => .bad
  | none => .bad
def pickA (ws : List W) (f : Cells → Out D) (h : Cells) : Out Val := if ws.length ≤ sizeLine then (f h).bind fun k h => pickM ws k h else .bad
def bindTo {α : Type} (tg : Tg) (x : D) (ρ : Env) (f : Env → Out α) : Out α := match bindT tg x ρ with
  | some ρ' => f ρ'
  | none => .bad
def bindS (tg : Tg) (x : D) (ρ : Env) (f : Env → SOut) : SOut := match bindT tg x ρ with
  | some ρ' => f ρ'
  | none => .bad
def itemsM (x : D) (h : Cells) : Out (List D) := match x with
  | .lst xs => .ok xs h
  | .tup xs => .ok xs h
  | .dic kvs => .ok (kvs.map (·.1)) h
  | _ => .bad
def rangeM (x : D) (h : Cells) : Out (List D) := match x with
  | .int n => if -(2 ^ 62) ≤ n ∧ n < 2 ^ 62 then .ok (rangeD n) h else .bad
  | _ => .bad
def rangeM2 (x y : D) (h : Cells) : Out (List D) := match x, y with
  | .int i, .int j => if -(2 ^ 62) ≤ i ∧ i < 2 ^ 62 ∧ -(2 ^ 62) ≤ j ∧ j < 2 ^ 62 then .ok (rangeD2 i j) h else .bad
  | _, _ => .bad
def asgM (own : Bool) (v : Val) (h : Cells) (j : Nat) (ρ : Env) : SOut := match bindV own v h with
  | some (w, h) => .nx (ρ.set j (some w)) h
  | none => .bad
def raiseOk (P : Prog) (x : Str) : Bool := match P.exc x with
  | some k => k.fields.isEmpty
  | none => false
def fieldOk (P : Prog) (c f : Str) : Bool := match P.cls c with
  | some k => decide (f ∈ k.fields)
  | none => false
def setAL (P : Prog) (n : Nat) (c : Option Cell) (f : Str) (w : W) (ρ : Env) (h : Cells) : SOut := match c with
  | some ⟨.ins c fs, false⟩ => match P.cls c with
    | some k => if f ∈ k.fields ∧ fs.length < 1000 ∧ w.lim n = true then .nx ρ (h.set n ⟨.ins c (aput fs f w), false⟩) else .bad
    | none => .bad
  | _ => .bad
def setAM (P : Prog) (o : Val) (f : Str) (w : W) (ρ : Env) (h : Cells) : SOut := match o with
  | .w (.r n) => setAL P n h[n]? f w ρ h
  | _ => .bad
def bindVS (own : Bool) (v : Val) (h : Cells) (k : W → Cells → SOut) : SOut := match bindV own v h with
  | some (w, h) => k w h
  | none => .bad
def lstSM (xs ds : List D) (h : Cells) : Out Val := if xs.length + ds.length ≤ sizeLine then .ok (.new (.lst (xs ++ ds))) h else .bad
def starM (x : D) (f : Cells → Out (List D)) (h : Cells) : Out Val := match x with
  | .lst xs => (f h).bind (hid (x := ⟨fun ds h => lstSM xs ds h⟩))
  | .tup xs => (f h).bind (hid (x := ⟨fun ds h => lstSM xs ds h⟩))
  | _ => .bad
def kwM (P : Prog) (cl : Cl) (x : Str) (arr : List Src) (ws zs : List W) (h : Cells) : Out Val := match pickAll ws zs arr with
  | some us => makeK P cl x us h
  | none => .bad
def unpL (ts : List Nat) (xs : List D) (ρ : Env) (h : Cells) : SOut := match bindL ts xs ρ with
  | some ρ => .nx ρ h
  | none => .bad
def unpM (ts : List Nat) (x : D) (ρ : Env) (h : Cells) : SOut := match bindU ts x ρ with
  | some ρ => .nx ρ h
  | none => .bad
def bwM (ts : List Nat) (ws : List W) (ρ : Env) (h : Cells) : SOut := match bindWs ts ws ρ with
  | some ρ => .nx ρ h
  | none => .bad
def bindVO {α : Type} (own : Bool) (v : Val) (h : Cells) (k : W → Cells → Out α) : Out α := match bindV own v h with
  | some (w, h) => k w h
  | none => .bad
/-! ### small steps on values -/
section
variable {P : Prog} {cl : Cl} {h : Cells} {i j : Int} {xs ys : List D} {kvs : List (D × D)} {ρ : Env} {α : Type}
theorem norm_d {x : D} : W.norm h (.d x) = .d x := (rfl)
theorem add_ii : binM .Add (.d (.int i)) (.d (.int j)) h = .ok (.w (.d (.int (i + j)))) h := (rfl)
theorem sub_ii : binM .Sub (.d (.int i)) (.d (.int j)) h = .ok (.w (.d (.int (i - j)))) h := (rfl)
theorem mul_ii (q : mulOk i j = true) : binM .Mult (.d (.int i)) (.d (.int j)) h = .ok (.w (.d (.int (i * j)))) h := by simp only [binM, W.rdu, binD, if_pos q]; rfl
theorem mod_ii (q : 0 < j) : binM .Mod (.d (.int i)) (.d (.int j)) h = .ok (.w (.d (.int (i % j)))) h := by simp only [binM, W.rdu, binD, if_pos q]; rfl
theorem fdiv_ii (q : 0 < j ∧ j < 1073741824) : binM .FloorDiv (.d (.int i)) (.d (.int j)) h = .ok (.w (.d (.int (i / j)))) h := by simp only [binM, W.rdu, binD, if_pos q]; rfl
theorem pow_ii (q : 0 ≤ j ∧ j ≤ 1000000 ∧ i.natAbs < 2 ^ 64) : binM .Pow (.d (.int i)) (.d (.int j)) h = .ok (.w (.d (.int (i ^ j.toNat)))) h := by simp only [binM, W.rdu, binD, if_pos q]; rfl
theorem add_ll (q : xs.length + ys.length ≤ sizeLine) : binM .Add (.d (.lst xs)) (.d (.lst ys)) h = .ok (.new (.lst (xs ++ ys))) h := by simp only [binM, W.rdu, binD, if_pos q]
theorem neg_i : negM (.int i) h = .ok (.w (.d (.int (-i)))) h := (rfl)
theorem items_l : itemsM (.lst xs) h = .ok xs h := (rfl)
theorem items_t : itemsM (.tup xs) h = .ok xs h := (rfl)
theorem items_d : itemsM (.dic kvs) h = .ok (kvs.map (·.1)) h := (rfl)
theorem range_i (q : -(2 ^ 62) ≤ i ∧ i < 2 ^ 62) : rangeM (.int i) h = .ok (rangeD i) h := by simp only [rangeM, if_pos q]
theorem range_ii (q : -(2 ^ 62) ≤ i ∧ i < 2 ^ 62 ∧ -(2 ^ 62) ≤ j ∧ j < 2 ^ 62) : rangeM2 (.int i) (.int j) h = .ok (rangeD2 i j) h := by simp only [rangeM2, if_pos q]
theorem bindTo_1 {n : Nat} {x : D} {f : Env → Out α} : bindTo (.name n) x ρ f = f (ρ.set n (some (.d x))) := (rfl)
theorem bindS_1 {n : Nat} {x : D} {f : Env → SOut} : bindS (.name n) x ρ f = f (ρ.set n (some (.d x))) := (rfl)
theorem bindTo_2 {n m : Nat} {x y : D} {f : Env → Out α} : bindTo (.tup [n, m]) (.tup [x, y]) ρ f = f ((ρ.set n (some (.d x))).set m (some (.d y))) := (rfl)
theorem bindS_2 {n m : Nat} {x y : D} {f : Env → SOut} : bindS (.tup [n, m]) (.tup [x, y]) ρ f = f ((ρ.set n (some (.d x))).set m (some (.d y))) := (rfl)
theorem asg_d {own : Bool} {x : D} {n : Nat} : asgM own (.w (.d x)) h n ρ = .nx (ρ.set n (some (.d x))) h := by cases own <;> rfl
theorem asg_r {own : Bool} {m n : Nat} : asgM own (.w (.r m)) h n ρ = .nx (ρ.set n (some (.r m))) h := by cases own <;> rfl
theorem asg_ol {o : Ob} {n : Nat} : asgM true (.new o) h n ρ = .nx (ρ.set n (some (.r h.length))) (h ++ [⟨o, false⟩]) := (rfl)
theorem asg_nl {n : Nat} : asgM false (.new (.lst xs)) h n ρ = .nx (ρ.set n (some (.d (.lst xs)))) h := (rfl)
theorem asg_nd {n : Nat} : asgM false (.new (.dic kvs)) h n ρ = .nx (ρ.set n (some (.d (.dic kvs)))) h := (rfl)
theorem bvs_d {own : Bool} {x : D} {k : W → Cells → SOut} : bindVS own (.w (.d x)) h k = k (.d x) h := by cases own <;> rfl
theorem bvs_r {own : Bool} {m : Nat} {k : W → Cells → SOut} : bindVS own (.w (.r m)) h k = k (.r m) h := by cases own <;> rfl
theorem bvs_ol {o : Ob} {k : W → Cells → SOut} : bindVS true (.new o) h k = k (.r h.length) (h ++ [⟨o, false⟩]) := (rfl)
theorem bvs_nl {k : W → Cells → SOut} : bindVS false (.new (.lst xs)) h k = k (.d (.lst xs)) h := (rfl)
theorem bvs_nd {k : W → Cells → SOut} : bindVS false (.new (.dic kvs)) h k = k (.d (.dic kvs)) h := (rfl)
theorem bvo_d {own : Bool} {x : D} {k : W → Cells → Out α} : bindVO own (.w (.d x)) h k = k (.d x) h := by cases own <;> rfl
theorem bvo_r {own : Bool} {m : Nat} {k : W → Cells → Out α} : bindVO own (.w (.r m)) h k = k (.r m) h := by cases own <;> rfl
theorem bvo_ol {o : Ob} {k : W → Cells → Out α} : bindVO true (.new o) h k = k (.r h.length) (h ++ [⟨o, false⟩]) := (rfl)
theorem bvo_nl {k : W → Cells → Out α} : bindVO false (.new (.lst xs)) h k = k (.d (.lst xs)) h := (rfl)
theorem bvo_nd {k : W → Cells → Out α} : bindVO false (.new (.dic kvs)) h k = k (.d (.dic kvs)) h := (rfl)
theorem star_l {f : Cells → Out (List D)} : starM (.lst xs) f h = (f h).bind (hid (x := ⟨fun ds h => lstSM xs ds h⟩)) := (rfl)
theorem star_t {f : Cells → Out (List D)} : starM (.tup xs) f h = (f h).bind (hid (x := ⟨fun ds h => lstSM xs ds h⟩)) := (rfl)
theorem lstS_ok (q : xs.length + ys.length ≤ sizeLine) : lstSM xs ys h = .ok (.new (.lst (xs ++ ys))) h := by simp only [lstSM, if_pos q]
theorem unp_l {ts : List Nat} : unpM ts (.lst xs) ρ h = unpL ts xs ρ h := (rfl)
theorem unp_t {ts : List Nat} : unpM ts (.tup xs) ρ h = unpL ts xs ρ h := (rfl)
theorem unpL_nil : unpL [] [] ρ h = .nx ρ h := (rfl)
theorem unpL_cons {i : Nat} {ts : List Nat} {x : D} : unpL (i :: ts) (x :: xs) ρ h = unpL ts xs (ρ.set i (some (.d x))) h := (rfl)
theorem bw_nil : bwM [] [] ρ h = .nx ρ h := (rfl)
theorem bw_cons {i : Nat} {ts : List Nat} {x : W} {ws : List W} : bwM (i :: ts) (x :: ws) ρ h = bwM ts ws (ρ.set i (some x)) h := (rfl)
theorem kw_ok {x : Str} {arr : List Src} {ws zs us : List W} (q : pickAll ws zs arr = some us) : kwM P cl x arr ws zs h = makeK P cl x us h := by simp only [kwM, q]
theorem setA_w {m : Nat} {f : Str} {w : W} : setAM P (.w (.r m)) f w ρ h = setAL P m h[m]? f w ρ h := (rfl)
theorem setAL_ins {m : Nat} {c f : Str} {fs : List (Str × W)} {w : W} (hf : fieldOk P c f = true) (hl : fs.length < 1000) (hw : w.lim m = true) : setAL P m (some ⟨.ins c fs, false⟩) f w ρ h = .nx ρ (h.set m ⟨.ins c (aput fs f w), false⟩) := by
  unfold fieldOk at hf
  unfold setAL
  cases e : P.cls c with
  | none => rw [e] at hf; cases hf
  | some k =>
    rw [e] at hf
    simp only [e]
    rw [if_pos ⟨of_decide_eq_true hf, hl, hw⟩]
/-! ### attributes, methods -/
def attrL (P : Prog) (cl : Cl) (n : Nat) (c : Option Cell) (f : Str) (h : Cells) : Out Val := match c with
  | some ⟨.ins c fs, false⟩ => match P.cls c with
    | some k => if f ∈ k.fields then (match alook fs f with
      | some x => .ok (.w (x.norm h)) h
      | none => .bad) else if f ∈ k.props ∧ P.isFn c f = true then (cl c f [.r n] h).calm else .bad
    | none => .bad
  | _ => .bad
theorem attr_r {m : Nat} {f : Str} : attrM P cl (.r m) f h = attrL P cl m h[m]? f h := (rfl)
theorem attrL_ins {m : Nat} {c f : Str} {fs : List (Str × W)} (hf : fieldOk P c f = true) : attrL P cl m (some ⟨.ins c fs, false⟩) f h = match alook fs f with
      | some x => .ok (.w (x.norm h)) h
      | none => .bad := by
  unfold fieldOk at hf
  unfold attrL
  cases e : P.cls c with
  | none => rw [e] at hf; cases hf
  | some k =>
    rw [e] at hf
    simp only [e]
    rw [if_pos (of_decide_eq_true hf)]
theorem attr_d {c f : Str} {fs : List (Str × D)} (hf : fieldOk P c f = true) : attrM P cl (.d (.ins c fs)) f h = match alook fs f with
      | some x => .ok (.w (.d x)) h
      | none => .bad := by
  unfold fieldOk at hf
  unfold attrM
  cases e : P.cls c with
  | none => rw [e] at hf; cases hf
  | some k =>
    rw [e] at hf
    simp only [e]
    rw [if_pos (of_decide_eq_true hf)]
    rfl
def propOk (P : Prog) (c f : Str) : Bool := match P.cls c with
  | some k => decide (f ∉ k.fields) && decide (f ∈ k.props) && P.isFn c f
  | none => false
theorem attr_p {c f : Str} {fs : List (Str × D)} (hf : propOk P c f = true) : attrM P cl (.d (.ins c fs)) f h = (cl c f [.d (.ins c fs)] h).calm := by
  unfold propOk at hf
  unfold attrM
  cases e : P.cls c with
  | none => rw [e] at hf; cases hf
  | some k =>
    rw [e] at hf
    simp only [Bool.and_eq_true, decide_eq_true_eq] at hf
    simp only [e]
    rw [if_neg hf.1.1, if_pos ⟨hf.1.2, hf.2⟩]
theorem ownM_d {c m : Str} {fs : List (Str × D)} (hm : isM P c m = true) : ownM P h (.d (.ins c fs)) m = match alook fs m with
    | some _ => none
    | none => some c := by
  unfold ownM
  cases e : alook fs m <;> simp only [e, hm, if_true]
def ownL (P : Prog) (c : Option Cell) (m : Str) : Option Str := match c with
    | some ⟨.ins c fs, false⟩ => match alook fs m with
      | some _ => none
      | none => if isM P c m then some c else none
    | _ => none
theorem ownM_r {n : Nat} {m : Str} : ownM P h (.r n) m = ownL P h[n]? m := (rfl)
theorem ownL_ins {c m : Str} {fs : List (Str × W)} (hm : isM P c m = true) : ownL P (some ⟨.ins c fs, false⟩) m = match alook fs m with
    | some _ => none
    | none => some c := by
  unfold ownL
  cases e : alook fs m <;> simp only [e, hm, if_true]
theorem lim_d {m : Nat} {x : D} : (W.d x).lim m = true := (rfl)
theorem tup_ok (q : xs.length ≤ sizeLine) : tupM xs h = .ok (.w (.d (.tup xs))) h := by simp only [tupM, if_pos q]; rfl
theorem lst_ok (q : xs.length ≤ sizeLine) : lstM xs h = .ok (.new (.lst xs)) h := by simp only [lstM, if_pos q]
theorem len_l : blM P cl .len [.d (.lst xs)] h = .ok (.w (.d (.int xs.length))) h := (rfl)
theorem len_t : blM P cl .len [.d (.tup xs)] h = .ok (.w (.d (.int xs.length))) h := (rfl)
theorem len_d : blM P cl .len [.d (.dic kvs)] h = .ok (.w (.d (.int kvs.length))) h := (rfl)
theorem int_b {b : Bool} : blM P cl .int [.d (.bl b)] h = .ok (.w (.d (.int (if b = true then 1 else 0)))) h := (rfl)
theorem int_i : blM P cl .int [.d (.int i)] h = .ok (.w (.d (.int i))) h := (rfl)
theorem min_ii : blM P cl .min [.d (.int i), .d (.int j)] h = .ok (.w (.d (.int (if j < i then j else i)))) h := (rfl)
theorem max_ii : blM P cl .max [.d (.int i), .d (.int j)] h = .ok (.w (.d (.int (if j > i then j else i)))) h := (rfl)
theorem list_l : blM P cl .list [.d (.lst xs)] h = .ok (.new (.lst xs)) h := (rfl)
theorem list_t : blM P cl .list [.d (.tup xs)] h = .ok (.new (.lst xs)) h := (rfl)
theorem all_l {bs : List Bool} (q : asBools xs = some bs) : blM P cl .all [.d (.lst xs)] h = .ok (.w (.d (.bl (bs.all id)))) h := by
  show (match (asBools xs).map (fun l => vB (l.all id)) with | some v => Out.ok v h | none => .bad) = _
  rw [q]; rfl
theorem any_l {bs : List Bool} (q : asBools xs = some bs) : blM P cl .any [.d (.lst xs)] h = .ok (.w (.d (.bl (bs.any id)))) h := by
  show (match (asBools xs).map (fun l => vB (l.any id)) with | some v => Out.ok v h | none => .bad) = _
  rw [q]; rfl
theorem sum_l {bs : List Int} (q : asInts xs = some bs) : blM P cl .sum [.d (.lst xs)] h = .ok (.w (.d (.int bs.sum))) h := by
  show (match (asInts xs).map (fun l => vI l.sum) with | some v => Out.ok v h | none => .bad) = _
  rw [q]; rfl
theorem asBools_map {α : Type} (g : α → Bool) : ∀ xs : List α, asBools (xs.map fun x => .bl (g x)) = some (xs.map g)
  | [] => rfl
  | x :: r => by rw [List.map_cons, asBools, asBools_map g r]; rfl
theorem asInts_map {α : Type} (g : α → Int) : ∀ xs : List α, asInts (xs.map fun x => .int (g x)) = some (xs.map g)
  | [] => rfl
  | x :: r => by rw [List.map_cons, asInts, asInts_map g r]; rfl
theorem lt_ii : cmpM P cl .Lt (.d (.int i)) (.d (.int j)) h = .ok (decide (i < j)) h := (rfl)
theorem le_ii : cmpM P cl .LtE (.d (.int i)) (.d (.int j)) h = .ok (decide (i ≤ j)) h := (rfl)
theorem gt_ii : cmpM P cl .Gt (.d (.int i)) (.d (.int j)) h = .ok (decide (j < i)) h := (rfl)
theorem ge_ii : cmpM P cl .GtE (.d (.int i)) (.d (.int j)) h = .ok (decide (j ≤ i)) h := (rfl)
theorem is_n {x : D} : cmpM P cl .Is (.d x) (.d .non) h = .ok (isNon x) h := (rfl)
theorem isnt_n {x : D} : cmpM P cl .IsNot (.d x) (.d .non) h = .ok (!isNon x) h := (rfl)
theorem is_b {a b : Bool} : cmpM P cl .Is (.d (.bl a)) (.d (.bl b)) h = .ok (decide (a = b)) h := (rfl)
theorem isnt_b {a b : Bool} : cmpM P cl .IsNot (.d (.bl a)) (.d (.bl b)) h = .ok (!decide (a = b)) h := (rfl)
theorem ne_any {x y : W} : cmpM P cl .NotEq x y h = (eqM P cl x y h).bind (hid (x := ⟨fun b h => .ok (!b) h⟩)) := (rfl)
theorem eq_any {x y : W} : cmpM P cl .Eq x y h = eqM P cl x y h := (rfl)
theorem in_any {x y : D} : cmpM P cl .In (.d x) (.d y) h = match inD x y with
    | some r => .ok r h
    | none => .bad := by
  show (match cmpD .In x y with | some r => Out.ok r h | none => .bad) = _
  rfl
/-- == of plain values, no object of an own class ahead -/
def noIns : D → Bool
  | .ins _ _ => false
  | _ => true
theorem eq_dd {x y : D} (q : noIns x = true) : eqM P cl (.d x) (.d y) h = match eqD x y with
    | some r => .ok r h
    | none => .bad := by
  cases x <;> first | (cases q; done) | rfl
theorem chain_i {op op' : CmpOp} {c : Cells → Out Val} : chainM op op' (.int i) (.int j) c h = match cmpI op i j with
    | some true => (c h).toD.bind (hid (x := ⟨fun z h => match z with
      | .int k => match cmpI op' j k with
        | some r => .ok (.w (.d (.bl r))) h
        | none => .bad
      | _ => .bad⟩))
    | some false => .ok (.w (.d (.bl false))) h
    | none => .bad := (rfl)
theorem sub_l {k : Int} {z : D} (q : subD (.lst xs) (.int k) = some z) : subM (.d (.lst xs)) (.int k) h = .ok (.w (.d z)) h := by simp only [subM, W.rd, q]; rfl
theorem sub_d {x k z : D} (q : subD x k = some z) : subM (.d x) k h = .ok (.w (.d z)) h := by simp only [subM, W.rd, q]; rfl
theorem sub_t0 {x : D} : subM (.d (.tup (x :: xs))) (.int 0) h = .ok (.w (.d x)) h := by
  refine sub_d ?_
  have e : ixAt (x :: xs).length 0 = some 0 := by unfold ixAt; rw [if_pos (by decide), if_pos (by simp)]; rfl
  show (match ixAt (x :: xs).length 0 with | some j => (x :: xs)[j]? | none => none) = some x
  rw [e]; rfl
theorem sub_t1 {x y : D} : subM (.d (.tup (x :: y :: xs))) (.int 1) h = .ok (.w (.d y)) h := by
  refine sub_d ?_
  have e : ixAt (x :: y :: xs).length 1 = some 1 := by unfold ixAt; rw [if_pos (by decide), if_pos (by simp; omega)]; rfl
  show (match ixAt (x :: y :: xs).length 1 with | some j => (x :: y :: xs)[j]? | none => none) = some y
  rw [e]; rfl
theorem pick_ok {ws : List W} {f : Cells → Out D} (q : ws.length ≤ sizeLine) : pickA ws f h = (f h).bind (hid (x := ⟨fun k h => pickM ws k h⟩)) := by unfold pickA; rw [if_pos q]; rfl
theorem pick_0 {w : W} {ws : List W} : pickM (w :: ws) (.int 0) h = .ok (.w (w.norm h)) h := by
  have e : ixAt (w :: ws).length 0 = some 0 := by unfold ixAt; rw [if_pos (by decide), if_pos (by simp)]; rfl
  show (match ixAt (w :: ws).length 0 with | some j => (match (w :: ws)[j]? with | some w => Out.ok (Val.w (w.norm h)) h | none => .bad) | none => .bad) = _
  rw [e]; rfl
theorem pick_1 {w u : W} {ws : List W} : pickM (w :: u :: ws) (.int 1) h = .ok (.w (u.norm h)) h := by
  have e : ixAt (w :: u :: ws).length 1 = some 1 := by unfold ixAt; rw [if_pos (by decide), if_pos (by simp; omega)]; rfl
  show (match ixAt (w :: u :: ws).length 1 with | some j => (match (w :: u :: ws)[j]? with | some w => Out.ok (Val.w (w.norm h)) h | none => .bad) | none => .bad) = _
  rw [e]; rfl
theorem pick_2 {w u v : W} {ws : List W} : pickM (w :: u :: v :: ws) (.int 2) h = .ok (.w (v.norm h)) h := by
  have e : ixAt (w :: u :: v :: ws).length 2 = some 2 := by unfold ixAt; rw [if_pos (by decide), if_pos (by simp; omega)]; rfl
  show (match ixAt (w :: u :: v :: ws).length 2 with | some j => (match (w :: u :: v :: ws)[j]? with | some w => Out.ok (Val.w (w.norm h)) h | none => .bad) | none => .bad) = _
  rw [e]; rfl
theorem pick_at {ws : List W} {k : Int} {w : W} (h0 : 0 ≤ k) (h1 : ws[k.toNat]? = some w) : pickM ws (.int k) h = .ok (.w (w.norm h)) h := by
  have hl := (List.getElem?_eq_some_iff.mp h1).1
  have e : ixAt ws.length k = some k.toNat := by unfold ixAt; rw [if_pos h0, if_pos (by omega)]
  show (match ixAt ws.length k with | some j => (match ws[j]? with | some w => Out.ok (Val.w (w.norm h)) h | none => .bad) | none => .bad) = _
  rw [e]
  simp only [h1]
theorem settle_d {x : D} : settleV (.w (.d x)) h = .ok (.w (.d x)) h := (rfl)
theorem settle_n {o : Ob} : settleV (.new o) h = .ok (.new o) h := (rfl)
def setlL (m : Nat) (c : Option Cell) (h : Cells) : Out Val := match c with
  | some ⟨.dicR kvs, false⟩ => match settleK kvs h with
    | some (q, h') => .ok (.w (.r m)) (h'.set m ⟨.dic q, false⟩)
    | none => .bad
  | some ⟨.lstR ns, false⟩ => match settleL ns h with
    | some (q, h') => .ok (.w (.r m)) (h'.set m ⟨.lst q, false⟩)
    | none => .bad
  | _ => .ok (.w (.r m)) h
theorem settle_r {m : Nat} : settleV (.w (.r m)) h = setlL m h[m]? h := by
  show (match settleC h m with | some h' => Out.ok (Val.w (.r m)) h' | none => .bad) = _
  unfold settleC setlL
  cases h[m]? with
  | none => rfl
  | some c =>
    obtain ⟨ob, lk⟩ := c
    cases lk with
    | true => cases ob <;> rfl
    | false =>
      cases ob with
      | dicR kvs => show (match (match settleK kvs h with | some (q, h') => some (h'.set m ⟨.dic q, false⟩) | none => none) with | some h' => Out.ok (Val.w (.r m)) h' | none => .bad) = (match settleK kvs h with | some (q, h') => Out.ok (Val.w (.r m)) (h'.set m ⟨.dic q, false⟩) | none => .bad); cases settleK kvs h <;> rfl
      | lstR ns => show (match (match settleL ns h with | some (q, h') => some (h'.set m ⟨.lst q, false⟩) | none => none) with | some h' => Out.ok (Val.w (.r m)) h' | none => .bad) = (match settleL ns h with | some (q, h') => Out.ok (Val.w (.r m)) (h'.set m ⟨.lst q, false⟩) | none => .bad); cases settleL ns h <;> rfl
      | _ => rfl
theorem setl_lst {m : Nat} {lk : Bool} : setlL m (some ⟨.lst xs, lk⟩) h = .ok (.w (.r m)) h := (rfl)
theorem setl_dic {m : Nat} {lk : Bool} : setlL m (some ⟨.dic kvs, lk⟩) h = .ok (.w (.r m)) h := (rfl)
theorem setl_ins {m : Nat} {lk : Bool} {c : Str} {fs : List (Str × W)} : setlL m (some ⟨.ins c fs, lk⟩) h = .ok (.w (.r m)) h := (rfl)
theorem setl_gone {m : Nat} {lk : Bool} {x : D} : setlL m (some ⟨.gone x, lk⟩) h = .ok (.w (.r m)) h := (rfl)
theorem isi_d {x : D} {t : Ty} (q : match x with | .cls _ => false | .ins _ _ => false | _ => true) : isiM P (.w (.d x)) t h = .ok (.w (.d (.bl (isiD t x)))) h := by
  cases x <;> first | (cases q; done) | rfl
theorem isi_ins {c : Str} {fs : List (Str × D)} {t : Ty} {k : CDef} (q : P.cls c = some k) : isiM P (.w (.d (.ins c fs))) t h = .ok (.w (.d (.bl (isiD t (.ins c fs))))) h := by
  simp only [isiM, Val.isi, q]; rfl
end
end Pe.Pw
namespace Pe.Pw
open PySem
/-! ## one lemma for each form of a term, of a statement -/
section
variable {P : Prog} {cl : Cl} {wf : Nat} {ρ : Env} {h : Cells} {a b c o i e k v elt : M} {es : List M} {x y f m : Str} {d : D} {op op' : CmpOp} {bo : Operator} {ty : Ty} {tg : Tg} {it : Wk} {j j2 : Nat} {w : W} {own oj : Bool} {s : S} {ss a' b' bd : List S} {hs : List Hd}
theorem e_var : evalE P cl ρ (.var j) h = match ρ[j]? with
    | some (some w) => .ok (.w (w.norm h)) h
    | _ => .bad := (rfl)
theorem e_con : evalE P cl ρ (.con d) h = .ok (.w (.d d)) h := (rfl)
theorem e_glob : evalE P cl ρ (.glob x) h = match P.con x with
    | some d => .ok (.w (.d d)) h
    | none => .bad := (rfl)
theorem e_bin : evalE P cl ρ (.bin bo a b) h = (evalE P cl ρ a h).toW.bind (hid (x := ⟨fun x h => (evalE P cl ρ b h).toW.bind (hid (x := ⟨fun y h => binM bo x y h⟩))⟩)) := (rfl)
theorem e_neg : evalE P cl ρ (.neg a) h = (evalE P cl ρ a h).toD.bind (hid (x := ⟨fun x h => negM x h⟩)) := (rfl)
theorem e_cmp : evalE P cl ρ (.cmp op a b) h = (evalE P cl ρ a h).toW.bind (hid (x := ⟨fun x h => (evalE P cl ρ b h).toW.bind (hid (x := ⟨fun y h => (cmpM P cl op x y h).bind (hid (x := ⟨fun b h => .ok (.w (.d (.bl b))) h⟩))⟩))⟩)) := (rfl)
theorem e_chain : evalE P cl ρ (.chain op op' a b c) h = (evalE P cl ρ a h).toD.bind (hid (x := ⟨fun x h => (evalE P cl ρ b h).toD.bind (hid (x := ⟨fun y h => chainM op op' x y (hid (x := ⟨fun h => evalE P cl ρ c h⟩)) h⟩))⟩)) := (rfl)
theorem e_not : evalE P cl ρ (.not a) h = (evalE P cl ρ a h).toB.bind (hid (x := ⟨fun b h => .ok (.w (.d (.bl (!b)))) h⟩)) := (rfl)
theorem e_and : evalE P cl ρ (.and a b) h = (evalE P cl ρ a h).toB.bind (hid (x := ⟨fun x h => if x then evalE P cl ρ b h else .ok (.w (.d (.bl false))) h⟩)) := (rfl)
theorem e_or : evalE P cl ρ (.or a b) h = (evalE P cl ρ a h).toB.bind (hid (x := ⟨fun x h => if x then .ok (.w (.d (.bl true))) h else evalE P cl ρ b h⟩)) := (rfl)
theorem e_ife : evalE P cl ρ (.ife c a b) h = (evalE P cl ρ c h).toB.bind (hid (x := ⟨fun x h => if x then evalE P cl ρ a h else evalE P cl ρ b h⟩)) := (rfl)
theorem e_tup : evalE P cl ρ (.tup es) h = (evalDs P cl ρ es h).bind (hid (x := ⟨fun ds h => tupM ds h⟩)) := (rfl)
theorem e_lst : evalE P cl ρ (.lst es) h = (evalDs P cl ρ es h).bind (hid (x := ⟨fun ds h => lstM ds h⟩)) := (rfl)
theorem e_lstS : evalE P cl ρ (.lstS a es) h = (evalE P cl ρ a h).toD.bind (hid (x := ⟨fun x h => starM x (hid (x := ⟨fun h => evalDs P cl ρ es h⟩)) h⟩)) := by
  conv => lhs; unfold evalE
  refine congrArg (Out.bind _) (funext fun x => funext fun h => ?_)
  cases x <;> rfl
theorem e_callK {ks : List Str} {vs : List M} {arr : List Src} (q : P.kwa x es.length ks = some arr) (q2 : (P.cls x).isSome = true) : evalE P cl ρ (.callK x es ks vs) h = (evalWs P cl ρ es h).bind (hid (x := ⟨fun ws h => (evalWs P cl ρ vs h).bind (hid (x := ⟨fun zs h => kwM P cl x arr ws zs h⟩))⟩)) := by
  obtain ⟨c, hc⟩ := Option.isSome_iff_exists.mp q2
  conv => lhs; unfold evalE
  rw [q, hc]
  rfl
theorem e_dnew : evalE P cl ρ .dnew h = .ok (.new (.dic [])) h := (rfl)
theorem e_isi (q : tyOk P ty = true) : evalE P cl ρ (.isi a ty) h = (evalE P cl ρ a h).bind (hid (x := ⟨fun v h => isiM P v ty h⟩)) := by
  show (if tyOk P ty = true then (evalE P cl ρ a h).bind (fun v h => match v.isi P h ty with
    | some b => Out.ok (vB b) h
    | none => .bad) else .bad) = _
  rw [if_pos q]; rfl
theorem e_meth : evalE P cl ρ (.meth o m es) h = (evalE P cl ρ o h).toW.bind (hid (x := ⟨fun x h => match ownM P h x m with
    | some c => (evalWs P cl ρ es h).bind (hid (x := ⟨fun ws h => cl c m (x :: ws) h⟩))
    | none => .bad⟩)) := (rfl)
theorem e_bm : evalE P cl ρ (.bm o m es) h = (evalE P cl ρ o h).bind (hid (x := ⟨fun v h => (tmpM v h).bind (hid (x := ⟨fun x h1 => (match x.lod h1 with
    | some t => if bmHas m t = true then (evalDs P cl ρ es h1).bind (hid (x := ⟨fun ds h => if x.lod h = some t then bmM x m ds h else .bad⟩)) else .bad
    | none => .bad : Out Val).cutV (tmpN v h)⟩))⟩)) := (rfl)
theorem e_attr : evalE P cl ρ (.attr o f) h = (evalE P cl ρ o h).toW.bind (hid (x := ⟨fun x h => attrM P cl x f h⟩)) := (rfl)
theorem e_sub : evalE P cl ρ (.sub o i) h = (evalE P cl ρ o h).toW.bind (hid (x := ⟨fun x h => (evalE P cl ρ i h).toD.bind (hid (x := ⟨fun k h => subM x k h⟩))⟩)) := (rfl)
theorem e_settle : evalE P cl ρ (.settle a) h = (evalE P cl ρ a h).bind (hid (x := ⟨fun v h => settleV v h⟩)) := (rfl)
theorem e_pick : evalE P cl ρ (.pick es i) h = (evalWs P cl ρ es h).bind (hid (x := ⟨fun ws h => pickA ws (hid (x := ⟨fun h => (evalE P cl ρ i h).toD⟩)) h⟩)) := (rfl)
theorem e_dcR : evalE P cl ρ (.dcR k v tg it) h = (evalI P cl ρ it h).bind (hid (x := ⟨fun xs h => (dcGoR (hid (x := ⟨fun x h => bindTo tg x ρ (hid (x := ⟨fun ρ' => (evalE P cl ρ' k h).toD.bind (hid (x := ⟨fun a h => (evalE P cl ρ' v h).bind (hid (x := ⟨fun v h => newOb a v h⟩))⟩))⟩))⟩)) xs [] h).calm.bind (hid (x := ⟨fun ys h => .ok (.new (.dicR ys)) h⟩))⟩)) := (rfl)
theorem e_slice {lo hi : Option M} : evalE P cl ρ (.slice o lo hi) h = (evalE P cl ρ o h).toW.bind (hid (x := ⟨fun x h => (evalO P cl ρ lo h).bind (hid (x := ⟨fun l h => (evalO P cl ρ hi h).bind (hid (x := ⟨fun u h => cutM x l u h⟩))⟩))⟩)) := (rfl)
theorem xe_lc0 : evalE P cl ρ (.lc elt tg it none) h = (evalI P cl ρ it h).bind fun xs h => (lcGo (fun x h => bindTo tg x ρ fun ρ' => (evalE P cl ρ' elt h).toD.bind fun y h => .ok (some y) h) xs [] h).calm.bind fun ys h => .ok (.new (.lst ys)) h := by
  conv => lhs; unfold evalE
  refine congrArg (Out.bind _) (funext fun xs => funext fun h => congrArg (fun z : Out _ => z.calm.bind _) ?_)
  refine congrArg (fun f => lcGo f xs [] h) (funext fun x => funext fun h => ?_)
  unfold bindTo
  cases bindT tg x ρ <;> rfl
theorem e_lc0 : evalE P cl ρ (.lc elt tg it none) h = (evalI P cl ρ it h).bind (hid (x := ⟨fun xs h => (lcGo (hid (x := ⟨fun x h => bindTo tg x ρ (hid (x := ⟨fun ρ' => (evalE P cl ρ' elt h).toD.bind (hid (x := ⟨fun y h => .ok (some y) h⟩))⟩))⟩)) xs [] h).calm.bind (hid (x := ⟨fun ys h => .ok (.new (.lst ys)) h⟩))⟩)) := xe_lc0
theorem xe_lc1 : evalE P cl ρ (.lc elt tg it (some c)) h = (evalI P cl ρ it h).bind fun xs h => (lcGo (fun x h => bindTo tg x ρ fun ρ' => (evalE P cl ρ' c h).toB.bind fun b h => if b then (evalE P cl ρ' elt h).toD.bind fun y h => .ok (some y) h else .ok none h) xs [] h).calm.bind fun ys h => .ok (.new (.lst ys)) h := by
  conv => lhs; unfold evalE
  refine congrArg (Out.bind _) (funext fun xs => funext fun h => congrArg (fun z : Out _ => z.calm.bind _) ?_)
  refine congrArg (fun f => lcGo f xs [] h) (funext fun x => funext fun h => ?_)
  unfold bindTo
  cases bindT tg x ρ <;> rfl
theorem e_lc1 : evalE P cl ρ (.lc elt tg it (some c)) h = (evalI P cl ρ it h).bind (hid (x := ⟨fun xs h => (lcGo (hid (x := ⟨fun x h => bindTo tg x ρ (hid (x := ⟨fun ρ' => (evalE P cl ρ' c h).toB.bind (hid (x := ⟨fun b h => if b then (evalE P cl ρ' elt h).toD.bind (hid (x := ⟨fun y h => .ok (some y) h⟩)) else .ok none h⟩))⟩))⟩)) xs [] h).calm.bind (hid (x := ⟨fun ys h => .ok (.new (.lst ys)) h⟩))⟩)) := xe_lc1
theorem xe_dc0 : evalE P cl ρ (.dc k v tg it none) h = (evalI P cl ρ it h).bind fun xs h => (dcGo (fun x h => bindTo tg x ρ fun ρ' => (evalE P cl ρ' k h).toD.bind fun a h => (evalE P cl ρ' v h).toD.bind fun b h => .ok (some (a, b)) h) xs [] h).calm.bind fun ys h => .ok (.new (.dic ys)) h := by
  conv => lhs; unfold evalE
  refine congrArg (Out.bind _) (funext fun xs => funext fun h => congrArg (fun z : Out _ => z.calm.bind _) ?_)
  refine congrArg (fun f => dcGo f xs [] h) (funext fun x => funext fun h => ?_)
  unfold bindTo
  cases bindT tg x ρ <;> rfl
theorem e_dc0 : evalE P cl ρ (.dc k v tg it none) h = (evalI P cl ρ it h).bind (hid (x := ⟨fun xs h => (dcGo (hid (x := ⟨fun x h => bindTo tg x ρ (hid (x := ⟨fun ρ' => (evalE P cl ρ' k h).toD.bind (hid (x := ⟨fun a h => (evalE P cl ρ' v h).toD.bind (hid (x := ⟨fun b h => .ok (some (a, b)) h⟩))⟩))⟩))⟩)) xs [] h).calm.bind (hid (x := ⟨fun ys h => .ok (.new (.dic ys)) h⟩))⟩)) := xe_dc0
theorem xe_dc1 : evalE P cl ρ (.dc k v tg it (some c)) h = (evalI P cl ρ it h).bind fun xs h => (dcGo (fun x h => bindTo tg x ρ fun ρ' => (evalE P cl ρ' c h).toB.bind fun b h => if b then (evalE P cl ρ' k h).toD.bind fun a h => (evalE P cl ρ' v h).toD.bind fun b h => .ok (some (a, b)) h else .ok none h) xs [] h).calm.bind fun ys h => .ok (.new (.dic ys)) h := by
  conv => lhs; unfold evalE
  refine congrArg (Out.bind _) (funext fun xs => funext fun h => congrArg (fun z : Out _ => z.calm.bind _) ?_)
  refine congrArg (fun f => dcGo f xs [] h) (funext fun x => funext fun h => ?_)
  unfold bindTo
  cases bindT tg x ρ <;> rfl
theorem e_dc1 : evalE P cl ρ (.dc k v tg it (some c)) h = (evalI P cl ρ it h).bind (hid (x := ⟨fun xs h => (dcGo (hid (x := ⟨fun x h => bindTo tg x ρ (hid (x := ⟨fun ρ' => (evalE P cl ρ' c h).toB.bind (hid (x := ⟨fun b h => if b then (evalE P cl ρ' k h).toD.bind (hid (x := ⟨fun a h => (evalE P cl ρ' v h).toD.bind (hid (x := ⟨fun b h => .ok (some (a, b)) h⟩))⟩)) else .ok none h⟩))⟩))⟩)) xs [] h).calm.bind (hid (x := ⟨fun ys h => .ok (.new (.dic ys)) h⟩))⟩)) := xe_dc1
theorem ds_nil : evalDs P cl ρ [] h = .ok [] h := (rfl)
theorem ds_cons : evalDs P cl ρ (e :: es) h = (evalE P cl ρ e h).toD.bind (hid (x := ⟨fun x h => (evalDs P cl ρ es h).bind (hid (x := ⟨fun xs h => .ok (x :: xs) h⟩))⟩)) := (rfl)
theorem ws_nil : evalWs P cl ρ [] h = .ok [] h := (rfl)
theorem ws_cons : evalWs P cl ρ (e :: es) h = (evalE P cl ρ e h).toW.bind (hid (x := ⟨fun x h => (evalWs P cl ρ es h).bind (hid (x := ⟨fun xs h => .ok (x :: xs) h⟩))⟩)) := (rfl)
theorem o_none : evalO P cl ρ none h = .ok none h := (rfl)
theorem o_some : evalO P cl ρ (some e) h = (evalE P cl ρ e h).toD.bind (hid (x := ⟨fun x h => match x with
    | .int i => .ok (some i) h
    | _ => .bad⟩)) := (rfl)
theorem i_val : evalI P cl ρ (.val e) h = (evalE P cl ρ e h).toD.bind (hid (x := ⟨fun x h => itemsM x h⟩)) := (rfl)
theorem i_range (q : P.free "range" = true) : evalI P cl ρ (.range a) h = (evalE P cl ρ a h).toD.bind (hid (x := ⟨fun x h => rangeM x h⟩)) := by
  show (if P.free "range" = true then (evalE P cl ρ a h).toD.bind (fun x h => match x with
    | .int n => if -(2 ^ 62) ≤ n ∧ n < 2 ^ 62 then Out.ok (rangeD n) h else .bad
    | _ => .bad)
    else .bad) = _
  rw [if_pos q]; rfl
theorem i_range2 (q : P.free "range" = true) : evalI P cl ρ (.range2 a b) h = (evalE P cl ρ a h).toD.bind (hid (x := ⟨fun x h => (evalE P cl ρ b h).toD.bind (hid (x := ⟨fun y h => rangeM2 x y h⟩))⟩)) := by
  conv => lhs; unfold evalI
  rw [if_pos q]; rfl
theorem i_items : evalI P cl ρ (.items e) h = (evalE P cl ρ e h).toD.bind (hid (x := ⟨fun x h => match x with
    | .dic kvs => .ok (kvs.map fun p => .tup [p.1, p.2]) h
    | _ => .bad⟩)) := (rfl)
theorem i_values : evalI P cl ρ (.values e) h = (evalE P cl ρ e h).toD.bind (hid (x := ⟨fun x h => match x with
    | .dic kvs => .ok (kvs.map (·.2)) h
    | _ => .bad⟩)) := (rfl)
theorem i_enum (q : P.free "enumerate" = true) : evalI P cl ρ (.enum e) h = (evalE P cl ρ e h).toD.bind (hid (x := ⟨fun x h => match x with
    | .lst xs => .ok (enumD 0 xs) h
    | _ => .bad⟩)) := by
  conv => lhs; unfold evalI
  rw [if_pos q]
  rfl
theorem s_asg1 : evalS P cl wf (.asg (.name j) own e) ρ h = (evalE P cl ρ e h).thenS ρ (hid (x := ⟨fun v h => asgM own v h j ρ⟩)) := (rfl)
theorem s_asg2 {ts : List Nat} : evalS P cl wf (.asg (.tup ts) own e) ρ h = (evalE P cl ρ e h).toD.thenS ρ (hid (x := ⟨fun x h => bindS (.tup ts) x ρ (hid (x := ⟨fun ρ => .nx ρ h⟩))⟩)) := (rfl)
theorem s_unp {ts : List Nat} : evalS P cl wf (.unp ts e) ρ h = (evalE P cl ρ e h).toD.thenS ρ (hid (x := ⟨fun x h => unpM ts x ρ h⟩)) := (rfl)
theorem s_parO {ts : List Nat} {os : List Bool} : evalS P cl wf (.parO ts os es) ρ h = (evalOs P cl ρ os es h).thenS ρ (hid (x := ⟨fun ws h => bwM ts ws ρ h⟩)) := (rfl)
theorem os_nil : evalOs P cl ρ [] [] h = .ok [] h := (rfl)
theorem os_cons {os : List Bool} : evalOs P cl ρ (own :: os) (e :: es) h = (evalE P cl ρ e h).bind (hid (x := ⟨fun v h => bindVO own v h (hid (x := ⟨fun w h => (evalOs P cl ρ os es h).bind (hid (x := ⟨fun ws h => .ok (w :: ws) h⟩))⟩))⟩)) := (rfl)
theorem s_setA : evalS P cl wf (.setA o f own e) ρ h = (evalE P cl ρ e h).thenS ρ (hid (x := ⟨fun v h => bindVS own v h (hid (x := ⟨fun w h => (evalE P cl ρ o h).thenS ρ (hid (x := ⟨fun o h => setAM P o f w ρ h⟩))⟩))⟩)) := (rfl)
theorem s_setI : evalS P cl wf (.setI o i e) ρ h = (evalE P cl ρ e h).toD.thenS ρ (hid (x := ⟨fun x h => (evalE P cl ρ o h).toW.thenS ρ (hid (x := ⟨fun w h => (evalE P cl ρ i h).toD.thenS ρ (hid (x := ⟨fun k h => (putM w k x h).thenS ρ (hid (x := ⟨fun _ h => .nx ρ h⟩))⟩))⟩))⟩)) := (rfl)
theorem s_augN : evalS P cl wf (.augN j bo e) ρ h = match ρ[j]? with
    | some (some (.d x)) => (evalE P cl ρ e h).toD.thenS ρ (hid (x := ⟨fun y h => match augD bo x y with
      | some z => .nx (ρ.set j (some (.d z))) h
      | none => .bad⟩))
    | _ => .bad := (rfl)
theorem s_augI : evalS P cl wf (.augI o i bo e) ρ h = (evalE P cl ρ o h).toW.thenS ρ (hid (x := ⟨fun w h => (evalE P cl ρ i h).toD.thenS ρ (hid (x := ⟨fun k h => match w.rd h with
    | some q => match subD q k with
      | some x => (evalE P cl ρ e h).toD.thenS ρ (hid (x := ⟨fun y h => match augD bo x y with
        | some z => (putM w k z h).thenS ρ (hid (x := ⟨fun _ h => .nx ρ h⟩))
        | none => .bad⟩))
      | none => .bad
    | none => .bad⟩))⟩)) := (rfl)
theorem s_expr : evalS P cl wf (.expr e) ρ h = (evalE P cl ρ e h).thenS ρ (hid (x := ⟨fun _ h => .nx ρ h⟩)) := (rfl)
theorem s_ret0 : evalS P cl wf (.ret none) ρ h = .rt (.w (.d .non)) h := (rfl)
theorem s_ret1 : evalS P cl wf (.ret (some e)) ρ h = (evalE P cl ρ e h).thenS ρ (hid (x := ⟨fun v h => .rt v h⟩)) := (rfl)
theorem s_ife : evalS P cl wf (.ife c a' b') ρ h = (evalE P cl ρ c h).toB.thenS ρ (hid (x := ⟨fun x h => if x then evalSs P cl wf a' ρ h else evalSs P cl wf b' ρ h⟩)) := (rfl)
theorem s_for : evalS P cl wf (.forr tg it bd) ρ h = (evalI P cl ρ it h).thenS ρ (hid (x := ⟨fun xs h => forGo h.length (hid (x := ⟨fun x ρ h => bindS tg x ρ (hid (x := ⟨fun ρ => evalSs P cl wf bd ρ h⟩))⟩)) xs ρ h⟩)) := (rfl)
theorem s_while : evalS P cl wf (.whil c bd) ρ h = whileGo h.length (hid (x := ⟨fun ρ h => (evalE P cl ρ c h).toB⟩)) (hid (x := ⟨fun ρ h => evalSs P cl wf bd ρ h⟩)) wf ρ h := (rfl)
theorem s_brk : evalS P cl wf .brk ρ h = .bk ρ h := (rfl)
theorem s_cont : evalS P cl wf .cont ρ h = .ct ρ h := (rfl)
theorem s_pass : evalS P cl wf .pass ρ h = .nx ρ h := (rfl)
theorem s_raise0 (q : raiseOk P x = true) : evalS P cl wf (.raise x []) ρ h = .exc ⟨x, []⟩ ρ h := by
  unfold raiseOk at q
  show (match P.exc x with
    | some x' => if x'.fields.length = ([] : List D).length then SOut.exc ⟨x, x'.fields.zip []⟩ ρ h else .bad
    | none => .bad) = _
  cases e : P.exc x with
  | none => rw [e] at q; cases q
  | some k => rw [e] at q; simp only [List.isEmpty_iff] at q; simp [q]
theorem ss_nil : evalSs P cl wf [] ρ h = .nx ρ h := (rfl)
theorem ss_cons : evalSs P cl wf (s :: ss) ρ h = (evalS P cl wf s ρ h).next (hid (x := ⟨fun ρ h => evalSs P cl wf ss ρ h⟩)) := (rfl)
end
end Pe.Pw
set_option maxHeartbeats 4000000
namespace Pe.Pw
open PySem
/-- its type may be told -/
def _root_.Pe.D.tyd (P : Prog) : D → Bool
  | .cls _ => false
  | .ins c _ => (P.cls c).isSome
  | _ => true
section
variable {P : Prog} {cl : Cl} {h : Cells} {x : D} {t : Ty} {i : Int} {s : Str} {b : Bool} {xs : List D} {kvs : List (D × D)} {c : Str} {fs : List (Str × D)}
theorem isi_ok (q : x.tyd P = true) : isiM P (.w (.d x)) t h = .ok (.w (.d (.bl (isiD t x)))) h := by
  cases x <;> first | (cases q; done) | rfl | skip
  obtain ⟨k, hk⟩ := Option.isSome_iff_exists.mp (show (P.cls _).isSome = true from q)
  exact isi_ins hk
theorem tyd_non : D.non.tyd P = true := (rfl)
theorem tyd_bl : (D.bl b).tyd P = true := (rfl)
theorem tyd_int : (D.int i).tyd P = true := (rfl)
theorem tyd_str : (D.str s).tyd P = true := (rfl)
theorem tyd_tup : (D.tup xs).tyd P = true := (rfl)
theorem tyd_lst : (D.lst xs).tyd P = true := (rfl)
theorem tyd_dic : (D.dic kvs).tyd P = true := (rfl)
theorem isi_nl : isiM P (.new (.lst xs)) t h = .ok (.w (.d (.bl (isiO t (.lst xs))))) h := (rfl)
theorem toW_ins {fs : List (Str × W)} {ds : List (Str × D)} (q : Ws.ds fs = some ds) : (Out.ok (.new (.ins c fs)) h).toW = .ok (.d (.ins c ds)) h := by
  show (match ((Ws.ds fs).map (D.ins c)).map W.d with | some x => Out.ok x h | none => .bad) = _
  rw [q]; rfl
theorem own_i {i : Int} : W.own h (.d (.int i)) = none := (rfl)
theorem fin_ret {n : Nat} {x : D} {h : Cells} : fin false n (.rt (.w (.d x)) h) = .ok (.w (.d x)) (h.take n) := (rfl)
theorem take_len {h : Cells} : h.take h.length = h := List.take_length
theorem ok_ite {p : Prop} [Decidable p] {a b : D} : (if p then Out.ok (Val.w (.d a)) h else Out.ok (Val.w (.d b)) h) = .ok (.w (.d (if p then a else b))) h := by split <;> rfl
end
end Pe.Pw
namespace Pe.Pw
open PySem
section
variable {P : Prog} {cl : Cl} {h : Cells} {i j : Int} {s t : Str} {xs ys : List D} {x y : D}
theorem eq_ii : eqM P cl (.d (.int i)) (.d (.int j)) h = .ok (decide (i = j)) h := by
  rw [eq_dd rfl]
  rfl
theorem eq_ss : eqM P cl (.d (.str s)) (.d (.str t)) h = .ok (decide (s = t)) h := by
  rw [eq_dd rfl]
  rfl
theorem eq_si : eqM P cl (.d (.str s)) (.d (.int i)) h = .ok false h := by
  rw [eq_dd rfl]; rfl
theorem eq_ns : eqM P cl (.d .non) (.d (.str s)) h = .ok false h := by
  rw [eq_dd rfl]; rfl
theorem eq_is : eqM P cl (.d (.int i)) (.d (.str s)) h = .ok false h := by
  rw [eq_dd rfl]; rfl
mutual
theorem eqv_refl : ∀ {x : D}, x.pl = true → D.eqv x x = true
  | .non, _ => rfl
  | .bl b, _ => by unfold D.eqv; simp
  | .int i, _ => by unfold D.eqv; simp
  | .str s, _ => by unfold D.eqv; simp
  | .tup xs, q => by unfold D.eqv; exact eqvs_refl (xs := xs) (by unfold D.pl at q; exact q)
  | .lst xs, q => by unfold D.eqv; exact eqvs_refl (xs := xs) (by unfold D.pl at q; exact q)
  | .dic _, q => by cases q
  | .ins _ _, q => by cases q
  | .cls _, q => by cases q
theorem eqvs_refl : ∀ {xs : List D}, D.pls xs = true → D.eqvs xs xs = true
  | [], _ => rfl
  | x :: xs, q => by
    unfold D.pls at q
    rw [Bool.and_eq_true] at q
    unfold D.eqvs
    simp only [eqv_refl q.1, eqvs_refl q.2, Bool.and_self]
end
theorem eq_self (p : x.pl = true) (q : x.dep ≤ 60) : eqM P cl (.d x) (.d x) h = .ok true h := by
  rw [eq_dd (by cases x <;> first | rfl | (cases p; done))]
  unfold eqD
  rw [p]
  simp only [Bool.and_self, Bool.true_and, decide_eq_true q, Bool.or_self, if_true, eqv_refl p]
theorem pls_all {xs : List D} : D.pls xs = xs.all D.pl := by
  induction xs with
  | nil => rfl
  | cons x xs ih => unfold D.pls; rw [ih]; rfl
theorem deps_le {xs : List D} {n : Nat} (q : ∀ x ∈ xs, x.dep ≤ n) : D.deps xs ≤ n := by
  induction xs with
  | nil => exact Nat.zero_le _
  | cons x xs ih => unfold D.deps; exact Nat.max_le.mpr ⟨q x (List.mem_cons_self), ih fun y hy => q y (List.mem_cons_of_mem _ hy)⟩
end
end Pe.Pw
set_option maxHeartbeats 4000000
namespace Pe.Pw
open PySem
/-! ## dicts with pairs of ints as keys -/
abbrev Cell2 := Int × Int
def keyP (p : Cell2) : NestedKey := .tup [.num p.1, .num p.2]
theorem key_pD (p : Cell2) : (pD p).key = some (keyP p) := (rfl)
theorem hk_pD (p : Cell2) : (pD p).hk = some (keyP p) := (rfl)
theorem keyP_inj {p q : Cell2} : keyP p = keyP q ↔ p = q := by
  constructor
  · intro h
    unfold keyP at h
    injection h with h
    injection h with h1 h2
    injection h2 with h2 _
    injection h1 with h1
    injection h2 with h2
    exact Prod.ext h1 h2
  · intro h; rw [h]
theorem pD_inj {p q : Cell2} : pD p = pD q ↔ p = q := by
  constructor
  · intro h
    have : (pD p).key = (pD q).key := by rw [h]
    rw [key_pD, key_pD] at this
    exact keyP_inj.mp (Option.some.inj this)
  · intro h; rw [h]
def kv {α : Type} (f : α → D) (l : List (Cell2 × α)) : List (D × D) := l.map fun q => (pD q.1, f q.2)
def aget {α : Type} : List (Cell2 × α) → Cell2 → Option α
  | [], _ => none
  | (q, v) :: r, p => if q = p then some v else aget r p
def aput2 {α : Type} : List (Cell2 × α) → Cell2 → α → List (Cell2 × α)
  | [], p, v => [(p, v)]
  | (q, u) :: r, p, v => if q = p then (q, v) :: r else (q, u) :: aput2 r p v
section
variable {α : Type} {f : α → D}
theorem dget_kv : ∀ {l : List (Cell2 × α)} {p : Cell2}, dget (kv f l) (keyP p) = (aget l p).map f
  | [], _ => rfl
  | (q, v) :: r, p => by
    show (if (pD q).key = some (keyP p) then some (f v) else dget (kv f r) (keyP p)) = ((if q = p then some v else aget r p) : Option α).map f
    rw [key_pD]
    by_cases e : q = p
    · rw [if_pos e, if_pos (by rw [e]), Option.map_some]
    · rw [if_neg e, if_neg (fun z => e (keyP_inj.mp (Option.some.inj z))), dget_kv]
theorem dput_kv : ∀ {l : List (Cell2 × α)} {p : Cell2} {v : α}, dput (kv f l) (pD p) (keyP p) (f v) = kv f (aput2 l p v)
  | [], _, _ => rfl
  | (q, u) :: r, p, v => by
    show (if (pD q).key = some (keyP p) then (pD q, f v) :: kv f r else (pD q, f u) :: dput (kv f r) (pD p) (keyP p) (f v)) = kv f (if q = p then (q, v) :: r else (q, u) :: aput2 r p v)
    rw [key_pD]
    by_cases e : q = p
    · rw [if_pos e, if_pos (by rw [e])]; rfl
    · rw [if_neg e, if_neg (fun z => e (keyP_inj.mp (Option.some.inj z))), dput_kv]; rfl
theorem aput2_len : ∀ {l : List (Cell2 × α)} {p : Cell2} {v : α}, (aput2 l p v).length ≤ l.length + 1
  | [], _, _ => Nat.le_refl _
  | (q, u) :: r, p, v => by
    unfold aput2
    split
    · simp
    · simp only [List.length_cons]; have := aput2_len (l := r) (p := p) (v := v); omega
end
/-- each key once, in the order of first sight -/
def dedup (l : List Cell2) : List Cell2 := l.foldl (fun acc p => if p ∈ acc then acc else acc ++ [p]) []
theorem dedup_go (l acc : List Cell2) (nd : acc.Nodup) : (l.foldl (fun acc p => if p ∈ acc then acc else acc ++ [p]) acc).Nodup ∧ (∀ p, p ∈ l.foldl (fun acc p => if p ∈ acc then acc else acc ++ [p]) acc ↔ p ∈ acc ∨ p ∈ l) ∧ (l.foldl (fun acc p => if p ∈ acc then acc else acc ++ [p]) acc).length ≤ acc.length + l.length := by
  induction l generalizing acc with
  | nil => exact ⟨nd, by simp, by simp⟩
  | cons x r ih =>
    rw [List.foldl_cons]
    by_cases e : x ∈ acc
    · rw [if_pos e]
      obtain ⟨a, b, c⟩ := ih acc nd
      refine ⟨a, fun p => ?_, by rw [List.length_cons]; omega⟩
      rw [b, List.mem_cons]
      constructor
      · rintro (z | z)
        · exact .inl z
        · exact .inr (.inr z)
      · rintro (z | rfl | z)
        · exact .inl z
        · exact .inl e
        · exact .inr z
    · rw [if_neg e]
      obtain ⟨a, b, c⟩ := ih (acc ++ [x]) (List.nodup_append.mpr ⟨nd, by simp, fun a ha b hb => by simp at hb; subst hb; exact fun z => e (z ▸ ha)⟩)
      refine ⟨a, fun p => ?_, by rw [List.length_append, List.length_singleton] at c; rw [List.length_cons]; omega⟩
      rw [b, List.mem_append, List.mem_singleton, List.mem_cons, or_assoc]
theorem dedup_nodup (l : List Cell2) : (dedup l).Nodup := (dedup_go l [] List.nodup_nil).1
theorem mem_dedup {l : List Cell2} {p : Cell2} : p ∈ dedup l ↔ p ∈ l := by
  have := (dedup_go l [] List.nodup_nil).2.1 p
  unfold dedup
  simpa using this
theorem dedup_len (l : List Cell2) : (dedup l).length ≤ l.length := by
  have := (dedup_go l [] List.nodup_nil).2.2
  simpa [dedup] using this
def kc (x : D) (l : List Cell2) : List (D × D) := l.map fun p => (pD p, x)
theorem kc_dput {x : D} : ∀ {l : List Cell2} {p : Cell2}, dput (kc x l) (pD p) (keyP p) x = kc x (if p ∈ l then l else l ++ [p])
  | [], _ => rfl
  | q :: r, p => by
    show (if (pD q).key = some (keyP p) then (pD q, x) :: kc x r else (pD q, x) :: dput (kc x r) (pD p) (keyP p) x) = _
    rw [key_pD]
    by_cases e : q = p
    · subst e
      rw [if_pos rfl, if_pos (List.mem_cons_self)]; rfl
    · rw [if_neg (fun z => e (keyP_inj.mp (Option.some.inj z))), kc_dput]
      by_cases e2 : p ∈ r
      · rw [if_pos e2, if_pos (List.mem_cons_of_mem _ e2)]; rfl
      · rw [if_neg e2, if_neg (fun z => by rcases List.mem_cons.mp z with z | z; exact e z.symm; exact e2 z)]; rfl
theorem kc_dget {x : D} : ∀ {l : List Cell2} {p : Cell2}, dget (kc x l) (keyP p) = if p ∈ l then some x else none
  | [], _ => rfl
  | q :: r, p => by
    show (if (pD q).key = some (keyP p) then some x else dget (kc x r) (keyP p)) = _
    rw [key_pD]
    by_cases e : q = p
    · subst e
      rw [if_pos rfl, if_pos (List.mem_cons_self)]
    · rw [if_neg (fun z => e (keyP_inj.mp (Option.some.inj z))), kc_dget]
      by_cases e2 : p ∈ r
      · rw [if_pos e2, if_pos (List.mem_cons_of_mem _ e2)]
      · rw [if_neg e2, if_neg (fun z => by rcases List.mem_cons.mp z with z | z; exact e z.symm; exact e2 z)]
/-- {cell: x for cell in cells} -/
theorem dcGo_kc {f : D → Cells → Out (Option (D × D))} {x : D} {h : Cells} : ∀ {l acc : List Cell2}, acc.length + l.length ≤ sizeLine → (∀ p ∈ l, f (pD p) h = .ok (some (pD p, x)) h) → dcGo f (l.map pD) (kc x acc) h = .ok (kc x (l.foldl (fun acc p => if p ∈ acc then acc else acc ++ [p]) acc)) h
  | [], acc, _, _ => rfl
  | p :: r, acc, hl, hf => by
    rw [List.length_cons] at hl
    rw [List.map_cons]
    unfold dcGo
    rw [hf p (List.mem_cons_self), bind_ok]
    simp only [hk_pD]
    rw [if_pos (by unfold kc; rw [List.length_map]; omega), kc_dput, List.foldl_cons]
    refine dcGo_kc ?_ fun q hq => hf q (List.mem_cons_of_mem _ hq)
    split
    · omega
    · rw [List.length_append, List.length_singleton]; omega
theorem dcGo_kc0 {f : D → Cells → Out (Option (D × D))} (x : D) {h : Cells} {l : List Cell2} (hl : l.length ≤ sizeLine) (hf : ∀ p ∈ l, f (pD p) h = .ok (some (pD p, x)) h) : dcGo f (l.map pD) [] h = .ok (kc x (dedup l)) h := dcGo_kc (acc := []) (by simpa using hl) hf
theorem pairsI_pD : ∀ {l : List Cell2}, pairsI (l.map pD) = some l
  | [] => rfl
  | p :: r => by rw [List.map_cons, pairsI, pairsI_pD]; rfl
def sortC (l : List Cell2) : List Cell2 := l.mergeSort leP
theorem mem_sortC {l : List Cell2} {p : Cell2} : p ∈ sortC l ↔ p ∈ l := by unfold sortC; exact List.mem_mergeSort
theorem sorted_kc {P : Prog} {cl : Cl} {x : D} {l : List Cell2} {h : Cells} : blM P cl .sorted [.d (.dic (kc x l))] h = .ok (.new (.lst ((sortC l).map pD))) h := by
  show (match ((sortD ((kc x l).map (·.1))).map fun l => Val.new (.lst l)) with | some v => Out.ok v h | none => .bad) = _
  have e : (kc x l).map (·.1) = l.map pD := by unfold kc; rw [List.map_map]; rfl
  rw [e]
  unfold sortD
  rw [pairsI_pD]
  rfl
/-- the cells of a plan -/
def cellsOf (l : List Cell2) : List Cell2 := sortC (dedup l)
theorem mem_cellsOf {l : List Cell2} {p : Cell2} : p ∈ cellsOf l ↔ p ∈ l := by unfold cellsOf; rw [mem_sortC, mem_dedup]
theorem cellsOf_len (l : List Cell2) : (cellsOf l).length ≤ l.length := by
  unfold cellsOf sortC
  rw [List.length_mergeSort]
  exact dedup_len l
theorem cellsOf_nodup (l : List Cell2) : (cellsOf l).Nodup := by
  unfold cellsOf sortC
  exact (List.mergeSort_perm _ _).nodup_iff.mpr (dedup_nodup l)
theorem dedup_of_nodup {l : List Cell2} (nd : l.Nodup) : dedup l = l := by
  have key : ∀ (l acc : List Cell2), (acc ++ l).Nodup → l.foldl (fun acc p => if p ∈ acc then acc else acc ++ [p]) acc = acc ++ l := by
    intro l
    induction l with
    | nil => intro acc _; simp
    | cons x r ih =>
      intro acc nd
      rw [List.foldl_cons, if_neg (fun z => ?_), ih _ (by simpa using nd)]
      · simp
      · exact (List.nodup_append.mp nd).2.2 x z x (List.mem_cons_self) rfl
  simpa [dedup] using key l [] (by simpa using nd)
theorem dedup_cellsOf {l : List Cell2} : dedup (cellsOf l) = cellsOf l := dedup_of_nodup (cellsOf_nodup l)
theorem le_sz {k : Nat} (h : k ≤ 1000) : k ≤ sizeLine := Nat.le_trans h (by decide)
theorem all_one {α : Type} : ∀ {l : List α}, (l.map fun _ => true).all id = true
  | [] => rfl
  | _ :: r => by rw [List.map_cons, List.all_cons, all_one]; rfl
/-! ### new cells -/
section
variable {h : Cells} {c c' : Cell} {cs : Str} {fs : List (Str × W)} {ρ : Env}
theorem gl_new : (h ++ [c])[h.length]? = some c := by simp
theorem set_new : (h ++ [c]).set h.length c' = h ++ [c'] := by
  induction h with
  | nil => rfl
  | cons a r ih => simp
theorem take_new : (h ++ [c]).take h.length = h := by simp
theorem take_same : (h ++ [c']).take (h ++ [c]).length = h ++ [c'] := by
  have e : (h ++ [c]).length = (h ++ [c']).length := by simp
  rw [e, List.take_length]
theorem norm_new : W.norm (h ++ [⟨.ins cs fs, false⟩]) (.r h.length) = .r h.length := by
  show (match (h ++ [(⟨.ins cs fs, false⟩ : Cell)])[h.length]? with | some ⟨.gone x, _⟩ => W.d x | _ => .r h.length) = _
  rw [gl_new]
def newM (n : Nat) (v : Val) (h' : Cells) : Out Val := match v with
    | .w (.d .non) => match h'[n]? with
      | some ⟨.ins k fs, false⟩ => .ok (.new (.ins k fs)) (h'.take n)
      | _ => .bad
    | _ => .bad
theorem callM_new {P : Prog} {cl : Cl} {x : Str} {ws : List W} {c : CDef} (h1 : P.isFn "" x = false) (h2 : P.cls x = some c) (h3 : P.isFn x "__init__" = true) (h4 : c.mu = false) : callM P cl x ws h = (cl x "__init__" (.r h.length :: ws) (h ++ [⟨.ins x [], false⟩])).bind (hid (x := ⟨fun v h' => newM h.length v h'⟩)) := by
  unfold callM
  rw [h1]
  simp only [Bool.false_eq_true, if_false, h2, h3, if_true, h4]
  rfl
theorem newM_ok : newM h.length (.w (.d .non)) (h ++ [⟨.ins cs fs, false⟩]) = .ok (.new (.ins cs fs)) h := by
  unfold newM
  simp only [gl_new, take_new]
theorem fin_new : fin false (h ++ [c]).length (.nx ρ (h ++ [c'])) = .ok (.w (.d .non)) (h ++ [c']) := by
  rw [fin_nx]
  rw [finish_d]
  rw [take_same]
end
end Pe.Pw
set_option maxHeartbeats 4000000
namespace Pe.Pw
open PySem
/-! ## cells -/
section
variable {P : Prog} {cl : Cl} {wf : Nat} {h : Cells} {m n : Nat} {i j : Int} {k x y z d : D} {xs ys : List D} {kvs : List (D × D)} {lk : Bool} {c f : Str} {fs : List (Str × W)} {o : Ob} {ρ : Env}
def normL (m : Nat) : Option Cell → W
  | some ⟨.gone x, _⟩ => .d x
  | _ => .r m
theorem norm_r : W.norm h (.r m) = normL m h[m]? := by
  unfold normL
  show (match h[m]? with | some ⟨.gone x, _⟩ => W.d x | _ => .r m) = _
  rfl
theorem normL_lst : normL m (some ⟨.lst xs, lk⟩) = .r m := (rfl)
theorem normL_dic : normL m (some ⟨.dic kvs, lk⟩) = .r m := (rfl)
theorem normL_ins : normL m (some ⟨.ins c fs, lk⟩) = .r m := (rfl)
theorem normL_gone : normL m (some ⟨.gone x, lk⟩) = .d x := (rfl)
def rdL : Option Cell → Option D
  | some c => c.rd
  | none => none
theorem rd_d : W.rd h (.d x) = some x := (rfl)
theorem rd_r : W.rd h (.r m) = rdL h[m]? := (rfl)
theorem rdL_lst : rdL (some ⟨.lst xs, lk⟩) = some (.lst xs) := by cases lk <;> rfl
theorem rdL_dic : rdL (some ⟨.dic kvs, lk⟩) = some (.dic kvs) := by cases lk <;> rfl
def subRL (c : Option Cell) (k : D) : Option Nat := match c, k with
    | some ⟨.dicR kvs, false⟩, k => match k.hk with
      | some kk => dget kvs kk
      | none => none
    | some ⟨.lstR ns, false⟩, .int i => match ixAt ns.length i with
      | some j => ns[j]?
      | none => none
    | _, _ => none
def subL (c : Option Cell) (k : D) (h : Cells) : Out Val := match rdL c with
  | some q => match subD q k with
    | some z => .ok (vD z) h
    | none => .bad
  | none => match subRL c k with
    | some n => .ok (.w (W.norm h (.r n))) h
    | none => .bad
theorem sub_r : subM (.r m) k h = subL h[m]? k h := (rfl)
theorem subL_dicR {kvs : List (D × Nat)} {kk : NestedKey} {n : Nat} (h1 : k.hk = some kk) (h2 : dget kvs kk = some n) : subL (some ⟨.dicR kvs, false⟩) k h = .ok (.w (W.norm h (.r n))) h := by
  have e : subRL (some ⟨.dicR kvs, false⟩) k = some n := by
    show (match k.hk with | some kk => dget kvs kk | none => none) = some n
    rw [h1]; exact h2
  show (match subRL (some ⟨.dicR kvs, false⟩) k with | some n => Out.ok (Val.w (W.norm h (.r n))) h | none => .bad) = _
  rw [e]
theorem subL_lst : subL (some ⟨.lst xs, lk⟩) k h = subM (.d (.lst xs)) k h := by cases lk <;> rfl
theorem subL_dic : subL (some ⟨.dic kvs, lk⟩) k h = subM (.d (.dic kvs)) k h := by cases lk <;> rfl
theorem sub_l0 : subM (.d (.lst (x :: xs))) (.int 0) h = .ok (.w (.d x)) h := by
  refine sub_d ?_
  have e : ixAt (x :: xs).length 0 = some 0 := by unfold ixAt; rw [if_pos (by decide), if_pos (by simp)]; rfl
  show (match ixAt (x :: xs).length 0 with | some j => (x :: xs)[j]? | none => none) = some x
  rw [e]; rfl
theorem sub_l1 : subM (.d (.lst (x :: y :: xs))) (.int 1) h = .ok (.w (.d y)) h := by
  refine sub_d ?_
  have e : ixAt (x :: y :: xs).length 1 = some 1 := by unfold ixAt; rw [if_pos (by decide), if_pos (by simp; omega)]; rfl
  show (match ixAt (x :: y :: xs).length 1 with | some j => (x :: y :: xs)[j]? | none => none) = some y
  rw [e]; rfl
theorem sub_at {k : Int} {z : D} (h0 : 0 ≤ k) (h1 : xs[k.toNat]? = some z) : subM (.d (.lst xs)) (.int k) h = .ok (.w (.d z)) h := by
  refine sub_d ?_
  have hl := (List.getElem?_eq_some_iff.mp h1).1
  have e : ixAt xs.length k = some k.toNat := by unfold ixAt; rw [if_pos h0, if_pos (by omega)]
  show (match ixAt xs.length k with | some j => xs[j]? | none => none) = some z
  rw [e]; exact h1
theorem sub_p0 {p : Int × Int} : subM (.d (pD p)) (.int 0) h = .ok (.w (.d (.int p.1))) h := sub_t0
theorem sub_p1 {p : Int × Int} : subM (.d (pD p)) (.int 1) h = .ok (.w (.d (.int p.2))) h := sub_t1
def putL (m : Nat) (c : Option Cell) (i x : D) (h : Cells) : Out Unit := match c with
    | some ⟨o, false⟩ => match putO o i x with
      | some o' => .ok () (h.set m ⟨o', false⟩)
      | none => .bad
    | _ => .bad
theorem put_r : putM (.r m) k x h = putL m h[m]? k x h := (rfl)
theorem putL_l0 : putL m (some ⟨.lst (y :: ys), false⟩) (.int 0) x h = .ok () (h.set m ⟨.lst (x :: ys), false⟩) := by
  have e : ixAt (y :: ys).length 0 = some 0 := by unfold ixAt; rw [if_pos (by decide), if_pos (by simp)]; rfl
  show (match (match ixAt (y :: ys).length 0 with | some j => some (Ob.lst ((y :: ys).set j x)) | none => none) with | some o' => Out.ok () (h.set m ⟨o', false⟩) | none => .bad) = _
  rw [e]; rfl
theorem putL_l1 : putL m (some ⟨.lst (y :: z :: ys), false⟩) (.int 1) x h = .ok () (h.set m ⟨.lst (y :: x :: ys), false⟩) := by
  have e : ixAt (y :: z :: ys).length 1 = some 1 := by unfold ixAt; rw [if_pos (by decide), if_pos (by simp; omega)]; rfl
  show (match (match ixAt (y :: z :: ys).length 1 with | some j => some (Ob.lst ((y :: z :: ys).set j x)) | none => none) with | some o' => Out.ok () (h.set m ⟨o', false⟩) | none => .bad) = _
  rw [e]; rfl
def toDL (m : Nat) (c : Option Cell) (h : Cells) : Out D := match c with
  | some ⟨ob, false⟩ => match ob.fz with
    | some x => .ok x (h.set m ⟨.gone x, false⟩)
    | none => .bad
  | _ => .bad
theorem toD_r : (Out.ok (.w (.r m)) h : Out Val).toD = toDL m h[m]? h := (rfl)
theorem toDL_lst : toDL m (some ⟨.lst xs, false⟩) h = .ok (.lst xs) (h.set m ⟨.gone (.lst xs), false⟩) := (rfl)
theorem toDL_dic : toDL m (some ⟨.dic kvs, false⟩) h = .ok (.dic kvs) (h.set m ⟨.gone (.dic kvs), false⟩) := (rfl)
/-! ### == -/
def eqL (P : Prog) (cl : Cl) (c : Option Cell) (m : Nat) (y : D) (h : Cells) : Out Bool := match c with
  | some ⟨.lst xs, _⟩ => eqM P cl (.d (.lst xs)) (.d y) h
  | some ⟨.dic kvs, _⟩ => eqM P cl (.d (.dic kvs)) (.d y) h
  | _ => eqM P cl (.r m) (.d y) h
theorem eq_rd : eqM P cl (.r m) (.d y) h = eqL P cl h[m]? m y h := by
  unfold eqL
  split
  · rename_i xs lk e
    rw [eq_dd rfl]
    show (match (match h[m]? with | some ⟨.ins c _, false⟩ => some c | _ => none) with | some c => _ | none => _) = _
    rw [e]
    show (match rdC h m, some y with | some a, some b => _ | _, _ => _) = _
    unfold rdC
    rw [e]
    cases lk <;> rfl
  · rename_i xs lk e
    rw [eq_dd rfl]
    show (match (match h[m]? with | some ⟨.ins c _, false⟩ => some c | _ => none) with | some c => _ | none => _) = _
    rw [e]
    show (match rdC h m, some y with | some a, some b => _ | _, _ => _) = _
    unfold rdC
    rw [e]
    cases lk <;> rfl
  · rfl
theorem eqL_lst : eqL P cl (some ⟨.lst xs, lk⟩) m y h = eqM P cl (.d (.lst xs)) (.d y) h := (rfl)
theorem eqL_dic : eqL P cl (some ⟨.dic kvs, lk⟩) m y h = eqM P cl (.d (.dic kvs)) (.d y) h := (rfl)
/-! ### methods of lists and dicts -/
theorem tmp_w {w : W} : tmpM (.w w) h = .ok w h := (rfl)
theorem tmpN_w {w : W} : tmpN (.w w) h = none := (rfl)
theorem tmp_lst : tmpM (.new (.lst xs)) h = .ok (.r h.length) (h ++ [⟨.lst xs, false⟩]) := (rfl)
theorem tmp_dic : tmpM (.new (.dic kvs)) h = .ok (.r h.length) (h ++ [⟨.dic kvs, false⟩]) := (rfl)
theorem tmpN_n : tmpN (.new o) h = some h.length := (rfl)
theorem cutV_none {v : Out Val} : v.cutV none = v := (rfl)
theorem cutV_some : (Out.ok (.w (.d x)) h).cutV (some n) = .ok (.w (.d x)) (h.take n) := (rfl)
def lodL : Option Cell → Option Bool
    | some ⟨.lst _, _⟩ => some true
    | some ⟨.dic _, _⟩ => some false
    | _ => none
theorem lod_r : W.lod h (.r m) = lodL h[m]? := (rfl)
theorem lod_l : W.lod h (.d (.lst xs)) = some true := (rfl)
theorem lod_d : W.lod h (.d (.dic kvs)) = some false := (rfl)
theorem lodL_lst : lodL (some ⟨.lst xs, lk⟩) = some true := (rfl)
theorem lodL_dic : lodL (some ⟨.dic kvs, lk⟩) = some false := (rfl)
theorem bh_app : bmHas "append" true = true := by decide
theorem bh_ext : bmHas "extend" true = true := by decide
theorem bh_clr {t : Bool} : bmHas "clear" t = true := by cases t <;> decide
theorem bh_pop : bmHas "pop" true = true := by decide
theorem bh_get : bmHas "get" false = true := by decide
def appL (m : Nat) (c : Option Cell) (d : D) (h : Cells) : Out Val := match c with
  | some ⟨.lst xs, false⟩ => if xs.length < sizeLine then .ok (vD .non) (h.set m ⟨.lst (xs ++ [d]), false⟩) else .bad
  | _ => .bad
theorem bm_app : bmM (.r m) "append" [d] h = appL m h[m]? d h := by
  unfold bmM
  rw [if_pos rfl]
  rfl
theorem appL_ok (q : xs.length < sizeLine) : appL m (some ⟨.lst xs, false⟩) d h = .ok (.w (.d .non)) (h.set m ⟨.lst (xs ++ [d]), false⟩) := by
  unfold appL
  simp only [if_pos q]
  rfl
def clrL (m : Nat) (c : Option Cell) (h : Cells) : Out Val := match c with
  | some ⟨.lst _, false⟩ => .ok (vD .non) (h.set m ⟨.lst [], false⟩)
  | some ⟨.dic _, false⟩ => .ok (vD .non) (h.set m ⟨.dic [], false⟩)
  | _ => .bad
theorem bm_clr : bmM (.r m) "clear" [] h = clrL m h[m]? h := by
  unfold bmM
  rw [if_neg (by decide), if_neg (by decide), if_pos rfl]
  rfl
theorem clrL_l : clrL m (some ⟨.lst xs, false⟩) h = .ok (.w (.d .non)) (h.set m ⟨.lst [], false⟩) := (rfl)
theorem clrL_d : clrL m (some ⟨.dic kvs, false⟩) h = .ok (.w (.d .non)) (h.set m ⟨.dic [], false⟩) := (rfl)
/-! ### try -/
def tryM (P : Prog) (cl : Cl) (wf : Nat) (hs : List Hd) (o : SOut) : SOut := match o with
  | .exc e ρ h => if (P.exc e.c).isSome = true then evalHs P cl wf hs e ρ h else .bad
  | o => o
theorem s_try {b : List S} {hs : List Hd} (q : hsOk P hs = true) : evalS P cl wf (.tryy b hs) ρ h = tryM P cl wf hs (evalSs P cl wf b ρ h) := by
  conv => lhs; unfold evalS
  rw [if_pos q]; rfl
theorem try_rt {hs : List Hd} {v : Val} : tryM P cl wf hs (.rt v h) = .rt v h := (rfl)
theorem try_nx {hs : List Hd} : tryM P cl wf hs (.nx ρ h) = .nx ρ h := (rfl)
theorem try_exc {hs : List Hd} {e : Ex} (q : (P.exc e.c).isSome = true) : tryM P cl wf hs (.exc e ρ h) = evalHs P cl wf hs e ρ h := by unfold tryM; simp only [q, if_true]
theorem try_ite {hs : List Hd} {p : Prop} [Decidable p] {a b : SOut} : tryM P cl wf hs (if p then a else b) = if p then tryM P cl wf hs a else tryM P cl wf hs b := by split <;> rfl
theorem hs_nil {e : Ex} : evalHs P cl wf [] e ρ h = .exc e ρ h := (rfl)
theorem hs_cons {e : Ex} {b : List S} {r : List Hd} : evalHs P cl wf (.mk c none b :: r) e ρ h = if catches P c e.c then evalSs P cl wf b ρ h else evalHs P cl wf r e ρ h := (rfl)
theorem hsOk_nil : hsOk P [] = true := (rfl)
theorem hsOk_cons {s : Option Nat} {b : List S} {r : List Hd} : hsOk P (.mk c s b :: r) = ((P.exc c).isSome && hsOk P r) := (rfl)
/-! ### loops -/
theorem turn_nx {I : Env → Cells → Prop} : TurnOk n I (.nx ρ h) = I (Env.keep n ρ) (h.take n) := by unfold TurnOk; rfl
theorem turn_ct {I : Env → Cells → Prop} : TurnOk n I (.ct ρ h) = I (Env.keep n ρ) (h.take n) := by unfold TurnOk; rfl
theorem turn_ite {I : Env → Cells → Prop} {p : Prop} [Decidable p] {a b : SOut} : TurnOk n I (if p then a else b) = if p then TurnOk n I a else TurnOk n I b := by split <;> rfl
theorem keep_nil : Env.keep n [] = [] := (rfl)
theorem keep_cons {w : Option W} {ρ : Env} : Env.keep n (w :: ρ) = W.keep n w :: Env.keep n ρ := (rfl)
theorem wkeep_d {x : D} : W.keep n (some (.d x)) = some (.d x) := (rfl)
theorem wkeep_n : W.keep n none = none := (rfl)
theorem wkeep_lt (q : m < n) : W.keep n (some (.r m)) = some (.r m) := by unfold W.keep; simp only [if_pos q]
/-- an expression that gives something, then .. -/
theorem then_wp {α : Type} {o : Out α} {Q : α → Cells → Prop} {T : SOut → Prop} {f : α → Cells → SOut} (hq : o.Wp Q) (hf : ∀ a h, Q a h → T (f a h)) : T (o.thenS ρ f) := by
  obtain ⟨a, h', e, q⟩ := hq.elim
  rw [e]
  exact hf a h' q
theorem next_for {xs : List D} {f : D → Env → Cells → SOut} {T : SOut → Prop} {g : Env → Cells → SOut} (I : Env → Cells → Prop) (hi : I ρ h) (hs : ∀ x ∈ xs, ∀ ρ h, I ρ h → TurnOk n I (f x ρ h)) (hk : ∀ ρ h, I ρ h → T (g ρ h)) : T ((forGo n f xs ρ h).next g) := by
  obtain ⟨ρ', h', e, q⟩ := forGo_ok I hi hs
  rw [e]
  exact hk ρ' h' q
theorem Wp_ok {α : Type} {a : α} {Q : α → Cells → Prop} : (Out.ok a h).Wp Q = Q a h := (rfl)
theorem calm_wp {α : Type} {o : Out α} {Q : α → Cells → Prop} (hq : o.Wp Q) : o.calm.Wp Q := by
  obtain ⟨a, h', e, q⟩ := hq.elim
  rw [e]; exact q
/-- a comprehension that draws -/
theorem lcGo_draw {α : Type} (φ : α → D) (ok : α → Prop) (I : Cells → Prop) {f : D → Cells → Out (Option D)} {xs : List D} (hl : xs.length ≤ sizeLine) (h0 : I h) (hs : ∀ x ∈ xs, ∀ h, I h → (f x h).Wp fun y h => I h ∧ ∃ p, y = some (φ p) ∧ ok p) :
    (lcGo f xs [] h).calm.Wp fun ys h => I h ∧ ∃ ps : List α, ys = ps.map φ ∧ (∀ p ∈ ps, ok p) ∧ ps.length = xs.length := by
  have key : ∀ (xs : List D) (qs : List α) (h : Cells), (∀ x ∈ xs, ∀ h, I h → (f x h).Wp fun y h => I h ∧ ∃ p, y = some (φ p) ∧ ok p) → (∀ p ∈ qs, ok p) → qs.length + xs.length ≤ sizeLine → I h → (lcGo f xs (qs.map φ) h).Wp fun ys h => I h ∧ ∃ ps : List α, ys = ps.map φ ∧ (∀ p ∈ ps, ok p) ∧ ps.length = qs.length + xs.length := by
    intro xs
    induction xs with
    | nil => intro qs h _ hq _ hi; exact ⟨hi, qs, rfl, hq, rfl⟩
    | cons x r ih =>
      intro qs h hs hq hl hi
      rw [List.length_cons] at hl
      obtain ⟨y, h', e, hi', p, rfl, hp⟩ := (hs x (List.mem_cons_self) h hi).elim
      unfold lcGo
      rw [e, bind_ok]
      simp only
      rw [if_pos (by rw [List.length_map]; omega), show qs.map φ ++ [φ p] = (qs ++ [p]).map φ by simp]
      obtain ⟨ys, h2, e2, i2, ps, e3, h3, h4⟩ := (ih (qs ++ [p]) h' (fun z hz => hs z (List.mem_cons_of_mem _ hz)) (fun z hz => by
        rcases List.mem_append.mp hz with hz | hz
        · exact hq z hz
        · rw [List.mem_singleton.mp hz]; exact hp) (by rw [List.length_append, List.length_singleton]; omega) hi').elim
      rw [e2]
      refine ⟨i2, ps, e3, h3, ?_⟩
      rw [h4, List.length_append, List.length_singleton, List.length_cons]; omega
  refine calm_wp ?_
  obtain ⟨ys, h2, e2, i2, ps, e3, h3, h4⟩ := (key xs [] h hs (fun p hp => by cases hp) (by simpa using hl) h0).elim
  rw [List.map_nil] at e2
  rw [e2]
  exact ⟨i2, ps, e3, h3, by simpa using h4⟩
end
end Pe.Pw
set_option maxHeartbeats 4000000
namespace Pe.Pw
open PySem
/-! ## dicts from cells to values, more -/
section
variable {α : Type} {f : α → D} {P : Prog} {cl : Cl} {h : Cells}
def keys2 (l : List (Cell2 × α)) : List Cell2 := l.map (·.1)
theorem aput2_new : ∀ {l : List (Cell2 × α)} {p : Cell2} {v : α}, p ∉ keys2 l → aput2 l p v = l ++ [(p, v)]
  | [], _, _, _ => rfl
  | (q, u) :: r, p, v, hn => by
    have h1 : q ≠ p := fun e => hn (by rw [e]; exact List.mem_cons_self)
    unfold aput2
    rw [if_neg h1, aput2_new fun z => hn (List.mem_cons_of_mem _ z)]
    rfl
/-- {cell: g(cell) for cell in cells if b(cell)}, each cell once -/
theorem dcGo_kvF {fd : D → Cells → Out (Option (D × D))} (f : α → D) (g : Cell2 → α) (b : Cell2 → Bool) : ∀ {l : List Cell2} {acc : List (Cell2 × α)}, l.Nodup → (∀ p ∈ l, p ∉ keys2 acc) → acc.length + l.length ≤ sizeLine → (∀ p ∈ l, fd (pD p) h = .ok (if b p then some (pD p, f (g p)) else none) h) →
    dcGo fd (l.map pD) (kv f acc) h = .ok (kv f (acc ++ (l.filter b).map fun p => (p, g p))) h
  | [], acc, _, _, _, _ => by simp [dcGo]
  | p :: r, acc, nd, hd, hl, hf => by
    rw [List.length_cons] at hl
    rw [List.map_cons]
    unfold dcGo
    rw [hf p (List.mem_cons_self), bind_ok]
    obtain ⟨n1, n2⟩ := List.nodup_cons.mp nd
    by_cases e : b p = true
    · rw [if_pos e]
      simp only [hk_pD]
      rw [if_pos (by unfold kv; rw [List.length_map]; omega), dput_kv, aput2_new (hd p (List.mem_cons_self)), dcGo_kvF f g b n2 (fun q hq => ?_) (by rw [List.length_append, List.length_singleton]; omega) fun q hq => hf q (List.mem_cons_of_mem _ hq), List.filter_cons_of_pos e]
      · simp
      · unfold keys2
        rw [List.map_append, List.mem_append, not_or]
        refine ⟨hd q (List.mem_cons_of_mem _ hq), ?_⟩
        simp only [List.map_cons, List.map_nil, List.mem_singleton]
        intro z
        exact n1 (by rw [← z]; exact hq)
    · have e : b p = false := by simpa using e
      rw [e]
      simp only [Bool.false_eq_true, if_false]
      rw [dcGo_kvF f g b n2 (fun q hq => hd q (List.mem_cons_of_mem _ hq)) (by omega) fun q hq => hf q (List.mem_cons_of_mem _ hq), List.filter_cons_of_neg (by rw [e]; decide)]
theorem dcGo_kv0 {fd : D → Cells → Out (Option (D × D))} (f : α → D) (g : Cell2 → α) (b : Cell2 → Bool) {l : List Cell2} (nd : l.Nodup) (hl : l.length ≤ sizeLine) (hf : ∀ p ∈ l, fd (pD p) h = .ok (if b p then some (pD p, f (g p)) else none) h) :
    dcGo fd (l.map pD) [] h = .ok (kv f ((l.filter b).map fun p => (p, g p))) h := by
  have := dcGo_kvF (acc := []) f g b nd (fun p _ => by unfold keys2; simp) (by simpa using hl) hf
  simpa [kv] using this
theorem dcGo_kvT {fd : D → Cells → Out (Option (D × D))} (f : α → D) (g : Cell2 → α) {l : List Cell2} (nd : l.Nodup) (hl : l.length ≤ sizeLine) (hf : ∀ p ∈ l, fd (pD p) h = .ok (some (pD p, f (g p))) h) :
    dcGo fd (l.map pD) [] h = .ok (kv f (l.map fun p => (p, g p))) h := by
  have := dcGo_kv0 (fd := fd) (h := h) f g (fun _ => true) nd hl (fun p hp => by rw [hf p hp]; rfl)
  rw [this, List.filter_eq_self.mpr fun _ _ => rfl]
theorem sorted_kv {l : List (Cell2 × α)} : blM P cl .sorted [.d (.dic (kv f l))] h = .ok (.new (.lst ((sortC (keys2 l)).map pD))) h := by
  show (match ((sortD ((kv f l).map (·.1))).map fun l => Val.new (.lst l)) with | some v => Out.ok v h | none => .bad) = _
  have e : (kv f l).map (·.1) = (keys2 l).map pD := by unfold kv keys2; rw [List.map_map, List.map_map]; rfl
  rw [e]
  unfold sortD
  rw [pairsI_pD]
  rfl
theorem sub_kv {l : List (Cell2 × α)} {p : Cell2} {v : α} (q : aget l p = some v) : subM (.d (.dic (kv f l))) (pD p) h = .ok (.w (.d (f v))) h := by
  refine sub_d ?_
  show (match (pD p).hk with | some k => dget (kv f l) k | none => none) = some (f v)
  rw [hk_pD]
  show dget (kv f l) (keyP p) = some (f v)
  rw [dget_kv, q]; rfl
theorem in_kv {l : List (Cell2 × α)} {p : Cell2} : inD (pD p) (.dic (kv f l)) = some (aget l p).isSome := by
  show (match (pD p).hk with | some k => some (dget (kv f l) k).isSome | none => none) = _
  rw [hk_pD]
  show some (dget (kv f l) (keyP p)).isSome = _
  rw [dget_kv, Option.isSome_map]
theorem in_kc {x : D} {l : List Cell2} {p : Cell2} : inD (pD p) (.dic (kc x l)) = some (decide (p ∈ l)) := by
  show (match (pD p).hk with | some k => some (dget (kc x l) k).isSome | none => none) = _
  rw [hk_pD]
  show some (dget (kc x l) (keyP p)).isSome = _
  rw [kc_dget]
  by_cases e : p ∈ l <;> simp [e]
def getOr (f : α → D) (o : Option α) (z : D) : D := match o with
  | some v => f v
  | none => z
theorem get_kv {l : List (Cell2 × α)} {p : Cell2} {z : D} : bmM (.d (.dic (kv f l))) "get" [pD p, z] h = .ok (.w (.d (getOr f (aget l p) z))) h := by
  unfold bmM
  rw [if_neg (by decide), if_neg (by decide), if_neg (by decide), if_neg (by decide), if_pos rfl]
  show (match getD (kv f l) [pD p, z] with | some v => Out.ok v h | none => .bad) = _
  have e : getD (kv f l) [pD p, z] = some (vD ((dget (kv f l) (keyP p)).getD z)) := by
    show (match (pD p).hk with | some k => some (vD ((dget (kv f l) k).getD z)) | none => none) = _
    rw [hk_pD]
  rw [e, dget_kv]
  cases aget l p <;> rfl
theorem aget_map {g : Cell2 → α} : ∀ {l : List Cell2} {p : Cell2}, aget (l.map fun p => (p, g p)) p = if p ∈ l then some (g p) else none
  | [], _ => rfl
  | q :: r, p => by
    show (if q = p then some (g q) else aget (r.map fun p => (p, g p)) p) = _
    by_cases e : q = p
    · subst e; rw [if_pos rfl, if_pos (List.mem_cons_self)]
    · rw [if_neg e, aget_map]
      by_cases e2 : p ∈ r
      · rw [if_pos e2, if_pos (List.mem_cons_of_mem _ e2)]
      · rw [if_neg e2, if_neg (fun z => by rcases List.mem_cons.mp z with z | z; exact e z.symm; exact e2 z)]
end
/-! ### stores -/
section
variable {α : Type} {f : α → D} {h : Cells} {m : Nat}
theorem put_kv {l : List (Cell2 × α)} {p : Cell2} {x : D} {v : α} (e : x = f v) (q : l.length < sizeLine) : putL m (some ⟨.dic (kv f l), false⟩) (pD p) x h = .ok () (h.set m ⟨.dic (kv f (aput2 l p v)), false⟩) := by
  subst e
  have e1 : putO (.dic (kv f l)) (pD p) (f v) = some (.dic (kv f (aput2 l p v))) := by
    show (match (pD p).hk with | some kk => if (kv f l).length < sizeLine then some (Ob.dic (dput (kv f l) (pD p) kk (f v))) else none | none => none) = _
    rw [hk_pD]
    show (if (kv f l).length < sizeLine then some (Ob.dic (dput (kv f l) (pD p) (keyP p) (f v))) else none) = _
    rw [if_pos (by unfold kv; rw [List.length_map]; exact q), dput_kv]
  show (match putO (.dic (kv f l)) (pD p) (f v) with | some o' => Out.ok () (h.set m ⟨o', false⟩) | none => .bad) = _
  rw [e1]
theorem mem_aput2 : ∀ {l : List (Cell2 × α)} {p : Cell2} {v : α} {q : Cell2 × α}, q ∈ aput2 l p v → q ∈ l ∨ q = (p, v)
  | [], p, v, q, h => .inr (List.mem_singleton.mp h)
  | (k, u) :: r, p, v, q, h => by
    unfold aput2 at h
    split at h
    · rename_i e
      rcases List.mem_cons.mp h with z | z
      · exact .inr (by rw [z, e])
      · exact .inl (List.mem_cons_of_mem _ z)
    · rcases List.mem_cons.mp h with z | z
      · exact .inl (by rw [z]; exact List.mem_cons_self)
      · exact (mem_aput2 z).imp (List.mem_cons_of_mem _) id
theorem keys_aput2 : ∀ {l : List (Cell2 × α)} {p : Cell2} {v : α} {k : Cell2}, k ∈ keys2 (aput2 l p v) ↔ k ∈ keys2 l ∨ k = p
  | [], p, v, k => by simp [keys2, aput2]
  | (q, u) :: r, p, v, k => by
    unfold aput2
    split
    · rename_i e
      subst e
      simp only [keys2, List.map_cons, List.mem_cons]
      constructor
      · exact fun z => .inl z
      · rintro (z | z)
        · exact z
        · exact .inl z
    · have := keys_aput2 (l := r) (p := p) (v := v) (k := k)
      simp only [keys2, List.map_cons, List.mem_cons] at this ⊢
      rw [this, or_assoc]
theorem nodup_aput2 : ∀ {l : List (Cell2 × α)} {p : Cell2} {v : α}, (keys2 l).Nodup → (keys2 (aput2 l p v)).Nodup
  | [], p, v, _ => by simp [keys2, aput2]
  | (q, u) :: r, p, v, nd => by
    obtain ⟨n1, n2⟩ := List.nodup_cons.mp (show (q :: keys2 r).Nodup from nd)
    unfold aput2
    split
    · exact nd
    · rename_i e
      refine List.nodup_cons.mpr (show q ∉ keys2 (aput2 r p v) ∧ (keys2 (aput2 r p v)).Nodup from ⟨fun z => ?_, nodup_aput2 n2⟩)
      rcases keys_aput2.mp z with z | z
      · exact n1 z
      · exact e z
/-- no more than there is room for -/
theorem nodup_len {β : Type} [DecidableEq β] : ∀ {l m : List β}, l.Nodup → (∀ x ∈ l, x ∈ m) → l.length ≤ m.length
  | [], m, _, _ => Nat.zero_le _
  | x :: r, m, nd, hs => by
    obtain ⟨n1, n2⟩ := List.nodup_cons.mp nd
    have hx : x ∈ m := hs x (List.mem_cons_self)
    have ih := nodup_len (l := r) (m := m.erase x) n2 fun y hy => (List.mem_erase_of_ne (fun e => n1 (by rw [← e]; exact hy))).mpr (hs y (List.mem_cons_of_mem _ hy))
    rw [List.length_erase_of_mem hx] at ih
    have := List.length_pos_of_mem hx
    rw [List.length_cons]
    omega
/-- the places of a grid -/
def grid (r c : Int) : List Cell2 := (List.range r.toNat).flatMap fun (i : Nat) => (List.range c.toNat).map fun (j : Nat) => ((i : Int), (j : Int))
theorem mem_grid {r c : Int} {p : Cell2} (h : (0 ≤ p.1 ∧ p.1 < r) ∧ 0 ≤ p.2 ∧ p.2 < c) : p ∈ grid r c := by
  unfold grid
  rw [List.mem_flatMap]
  refine ⟨p.1.toNat, List.mem_range.mpr (by omega), List.mem_map.mpr ⟨p.2.toNat, List.mem_range.mpr (by omega), ?_⟩⟩
  refine Prod.ext ?_ ?_
  · show ((p.1.toNat : Nat) : Int) = p.1; omega
  · show ((p.2.toNat : Nat) : Int) = p.2; omega
theorem grid_len {r c : Int} (hr : r ≤ 30) (hc : c ≤ 30) : (grid r c).length ≤ 900 := by
  unfold grid
  have key : ∀ l : List Nat, (l.flatMap fun (i : Nat) => (List.range c.toNat).map fun (j : Nat) => ((i : Int), (j : Int))).length = l.length * c.toNat := by
    intro l
    induction l with
    | nil => simp
    | cons a l ih => rw [List.flatMap_cons, List.length_append, ih, List.length_map, List.length_range, List.length_cons, Nat.add_mul]; omega
  rw [key, List.length_range]
  exact Nat.mul_le_mul (by omega : r.toNat ≤ 30) (by omega : c.toNat ≤ 30)
end
/-! ### short lists -/
section
variable {P : Prog} {cl : Cl} {h : Cells} {i : Int} {r : List Int} {xs : List D}
def lcPush (f : D → Cells → Out (Option D)) (r acc : List D) (y : Option D) (h : Cells) : Out (List D) := match y with
    | some y => if acc.length < sizeLine then lcGo f r (acc ++ [y]) h else .bad
    | none => lcGo f r acc h
theorem lc_nil {f : D → Cells → Out (Option D)} {acc : List D} : lcGo f [] acc h = .ok acc h := (rfl)
theorem lc_cons {f : D → Cells → Out (Option D)} {x : D} {r acc : List D} : lcGo f (x :: r) acc h = (f x h).bind (hid (x := ⟨fun y h => lcPush f r acc y h⟩)) := (rfl)
theorem lcPush_s {f : D → Cells → Out (Option D)} {y : D} {r acc : List D} (q : acc.length < sizeLine) : lcPush f r acc (some y) h = lcGo f r (acc ++ [y]) h := by simp only [lcPush, if_pos q]
theorem lcPush_n {f : D → Cells → Out (Option D)} {r acc : List D} : lcPush f r acc none h = lcGo f r acc h := (rfl)
theorem lt_sz {k : Nat} (h : k < 1000) : k < sizeLine := Nat.lt_of_lt_of_le h (by decide)
theorem min_l (q : asInts xs = some (i :: r)) : blM P cl .min [.d (.lst xs)] h = .ok (.w (.d (.int (minI i r)))) h := by
  show (match (match asInts xs with | some (i :: r) => some (vI (minI i r)) | _ => none) with | some v => Out.ok v h | none => .bad) = _
  rw [q]; rfl
theorem max_l (q : asInts xs = some (i :: r)) : blM P cl .max [.d (.lst xs)] h = .ok (.w (.d (.int (maxI i r)))) h := by
  show (match (match asInts xs with | some (i :: r) => some (vI (maxI i r)) | _ => none) with | some v => Out.ok v h | none => .bad) = _
  rw [q]; rfl
end
end Pe.Pw
set_option maxHeartbeats 4000000
namespace Pe.Pw
open PySem
/-! ## more on plain values: dicts by any keys, greatest numbers, loops that go on -/
section
variable {P : Prog} {cl : Cl} {wf : Nat} {h h0 h1 : Cells} {ρ : Env} {n : Nat} {e v : M}
/-! ### dicts by keys that differ -/
theorem dput_new {β : Type} : ∀ {l : List (D × β)} {kd : D} {k : NestedKey} {x : β}, dget l k = none → dput l kd k x = l ++ [(kd, x)]
  | [], _, _, _, _ => rfl
  | (d, y) :: r, kd, k, x, q => by
    unfold dget at q
    unfold dput
    by_cases e : d.key = some k
    · rw [if_pos e] at q; cases q
    · rw [if_neg e] at q
      rw [if_neg e, dput_new q]; rfl
theorem hk_key' {d : D} {k : NestedKey} (h : d.hk = some k) : d.key = some k := (hk_key h).1
section
variable {α β : Type} {κ : α → D} {kf : α → NestedKey} {g : α → β}
theorem dget_gen (hk : ∀ a, (κ a).hk = some (kf a)) : ∀ {l : List α} {k : NestedKey}, dget (l.map fun a => (κ a, g a)) k = (l.find? fun a => decide (kf a = k)).map g
  | [], _ => rfl
  | a :: r, k => by
    rw [List.map_cons]
    unfold dget
    rw [hk_key' (hk a), List.find?_cons]
    by_cases e : kf a = k
    · rw [if_pos (by rw [e]), decide_eq_true e]; rfl
    · rw [if_neg (fun z => e (Option.some.inj z)), decide_eq_false e]
      exact dget_gen hk
theorem find_self : ∀ {l : List α}, (l.map kf).Nodup → ∀ {a : α}, a ∈ l → l.find? (fun b => decide (kf b = kf a)) = some a
  | [], _, a, h => by cases h
  | b :: r, nd, a, h => by
    rw [List.map_cons] at nd
    obtain ⟨n1, n2⟩ := List.nodup_cons.mp nd
    rw [List.find?_cons]
    rcases List.mem_cons.mp h with e | e
    · subst e; rw [decide_eq_true rfl]
    · have ne : kf b ≠ kf a := fun z => n1 (by rw [z]; exact List.mem_map.mpr ⟨a, e, rfl⟩)
      rw [decide_eq_false ne]
      exact find_self n2 e
theorem find_non {l : List α} {k : NestedKey} (h : k ∉ l.map kf) : l.find? (fun b => decide (kf b = k)) = none := by
  rw [List.find?_eq_none]
  intro x hx z
  exact h (List.mem_map.mpr ⟨x, hx, of_decide_eq_true z⟩)
theorem dget_at (hk : ∀ a, (κ a).hk = some (kf a)) {l : List α} (nd : (l.map kf).Nodup) {a : α} (h : a ∈ l) : dget (l.map fun a => (κ a, g a)) (kf a) = some (g a) := by
  rw [dget_gen hk, find_self nd h]; rfl
end
theorem dcGo_gen {α : Type} {f : D → Cells → Out (Option (D × D))} (φ : α → D) (κ : α → D) (kf : α → NestedKey) (g : α → D) (hk : ∀ a, (κ a).hk = some (kf a)) : ∀ {l pre : List α}, ((pre ++ l).map kf).Nodup → pre.length + l.length ≤ sizeLine → (∀ a ∈ l, f (φ a) h = .ok (some (κ a, g a)) h) →
    dcGo f (l.map φ) (pre.map fun a => (κ a, g a)) h = .ok ((pre ++ l).map fun a => (κ a, g a)) h
  | [], pre, _, _, _ => by simp [dcGo]
  | a :: r, pre, nd, hl, hf => by
    rw [List.length_cons] at hl
    rw [List.map_cons]
    unfold dcGo
    rw [hf a (List.mem_cons_self), bind_ok]
    simp only [hk a]
    rw [if_pos (by rw [List.length_map]; omega)]
    have e : dget (pre.map fun a => (κ a, g a)) (kf a) = none := by
      rw [dget_gen hk, find_non]; rfl
      intro z
      rw [List.map_append, List.map_cons] at nd
      exact (List.nodup_append.mp nd).2.2 _ z _ (List.mem_cons_self) rfl
    rw [dput_new e, show (pre.map fun a => (κ a, g a)) ++ [(κ a, g a)] = (pre ++ [a]).map fun a => (κ a, g a) by simp, dcGo_gen φ κ kf g hk (pre := pre ++ [a]) (by simpa using nd) (by rw [List.length_append, List.length_singleton]; omega) fun b hb => hf b (List.mem_cons_of_mem _ hb)]
    simp
theorem dcGo_gen0 {α : Type} {f : D → Cells → Out (Option (D × D))} (φ : α → D) (κ : α → D) (kf : α → NestedKey) (g : α → D) (hk : ∀ a, (κ a).hk = some (kf a)) {l : List α} (nd : (l.map kf).Nodup) (hl : l.length ≤ sizeLine) (hf : ∀ a ∈ l, f (φ a) h = .ok (some (κ a, g a)) h) :
    dcGo f (l.map φ) [] h = .ok (l.map fun a => (κ a, g a)) h := dcGo_gen φ κ kf g hk (pre := []) nd (by simpa using hl) hf
theorem kv_fst {α : Type} {f : α → D} {l : List (Cell2 × α)} : (kv f l).map (fun x => x.1) = (keys2 l).map pD := by unfold kv keys2; rw [List.map_map, List.map_map]; rfl
/-! ### lines -/
abbrev Ln := Bool × Nat
def lnS (b : Bool) : Str := if b then ("row" : Str) else ("column" : Str)
def lnD (l : Ln) : D := .tup [.str (lnS l.1), .int l.2]
def lnK (l : Ln) : NestedKey := .tup [.text (lnS l.1), .num l.2]
theorem hk_lnD (l : Ln) : (lnD l).hk = some (lnK l) := (rfl)
theorem lnS_inj {a b : Bool} (h : lnS a = lnS b) : a = b := by
  cases a <;> cases b <;> first | rfl | (simp [lnS, strEq] at h)
theorem lnK_inj {a b : Ln} (h : lnK a = lnK b) : a = b := by
  unfold lnK at h
  injection h with h
  injection h with h1 h2
  injection h2 with h2 _
  injection h1 with h1
  injection h2 with h2
  exact Prod.ext (lnS_inj h1) (by omega)
theorem lnD_inj {a b : Ln} (h : lnD a = lnD b) : a = b := by
  have : (lnD a).hk = (lnD b).hk := by rw [h]
  rw [hk_lnD, hk_lnD] at this
  exact lnK_inj (Option.some.inj this)
def lns (r c : Int) : List Ln := (List.range r.toNat).map (fun k => (true, k)) ++ (List.range c.toNat).map (fun k => (false, k))
theorem mem_lns {r c : Int} {l : Ln} : l ∈ lns r c ↔ (l.1 = true ∧ (l.2 : Int) < r) ∨ (l.1 = false ∧ (l.2 : Int) < c) := by
  obtain ⟨b, k⟩ := l
  simp only [lns, List.mem_append, List.mem_map, List.mem_range, Prod.mk.injEq]
  constructor
  · rintro (⟨j, hj, rfl, rfl⟩ | ⟨j, hj, rfl, rfl⟩)
    · exact .inl ⟨rfl, by omega⟩
    · exact .inr ⟨rfl, by omega⟩
  · rintro (⟨rfl, hk⟩ | ⟨rfl, hk⟩)
    · exact .inl ⟨k, by omega, rfl, rfl⟩
    · exact .inr ⟨k, by omega, rfl, rfl⟩
theorem lns_len {r c : Int} : (lns r c).length = r.toNat + c.toNat := by simp [lns]
theorem nodup_map {α β : Type} {f : α → β} (inj : ∀ a b, f a = f b → a = b) : ∀ {l : List α}, l.Nodup → (l.map f).Nodup
  | [], _ => List.nodup_nil
  | a :: r, h => by
    obtain ⟨h1, h2⟩ := List.nodup_cons.mp h
    rw [List.map_cons]
    refine List.nodup_cons.mpr ⟨fun z => ?_, nodup_map inj h2⟩
    obtain ⟨b, hb, e⟩ := List.mem_map.mp z
    rw [inj _ _ e] at hb
    exact h1 hb
theorem lns_nodup {r c : Int} : (lns r c).Nodup := by
  unfold lns
  refine List.nodup_append.mpr ⟨nodup_map (fun a b h => (Prod.mk.inj h).2) List.nodup_range, nodup_map (fun a b h => (Prod.mk.inj h).2) List.nodup_range, fun a ha b hb z => ?_⟩
  obtain ⟨i, _, rfl⟩ := List.mem_map.mp ha
  obtain ⟨j, _, rfl⟩ := List.mem_map.mp hb
  exact absurd (Prod.mk.inj z).1 (by decide)
theorem lns_keys {r c : Int} : ((lns r c).map lnK).Nodup := nodup_map (fun _ _ => lnK_inj) lns_nodup
/-- the cells of a line -/
def onLn (l : Ln) (cs : List Cell2) : List Cell2 := cs.filter fun p => decide ((if l.1 then p.1 else p.2) = (l.2 : Int))
/-! ### the greatest number, 0 for none -/
theorem maxI_mem (r : List Int) : ∀ i, maxI i r = i ∨ maxI i r ∈ r := by
  induction r with
  | nil => exact fun i => .inl rfl
  | cons j r ih =>
    intro i
    show maxI (if i < j then j else i) r = i ∨ maxI (if i < j then j else i) r ∈ j :: r
    split
    · rcases ih j with e | e
      · exact .inr (by rw [e]; exact List.mem_cons_self)
      · exact .inr (List.mem_cons_of_mem _ e)
    · exact (ih i).imp id (List.mem_cons_of_mem _)
theorem maxI_ge (r : List Int) : ∀ i, i ≤ maxI i r ∧ ∀ y ∈ r, y ≤ maxI i r := by
  induction r with
  | nil => exact fun i => ⟨Int.le_refl _, fun y hy => by cases hy⟩
  | cons j r ih =>
    intro i
    show i ≤ maxI (if i < j then j else i) r ∧ ∀ y ∈ j :: r, y ≤ maxI (if i < j then j else i) r
    obtain ⟨h1, h2⟩ := ih (if i < j then j else i)
    refine ⟨?_, fun y hy => ?_⟩
    · split at h1 <;> rename_i q <;> simp only [q, if_true, if_false] <;> omega
    · rcases List.mem_cons.mp hy with rfl | hy
      · split at h1 <;> rename_i q <;> simp only [q, if_true, if_false] <;> omega
      · exact h2 y hy
theorem maxI_set {i : Int} {r r' : List Int} (h : ∀ x, x ∈ r ↔ x ∈ r') : maxI i r = maxI i r' := by
  have a := maxI_ge r i
  have b := maxI_ge r' i
  apply Int.le_antisymm
  · rcases maxI_mem r i with e | e
    · rw [e]; exact b.1
    · exact b.2 _ ((h _).mp e)
  · rcases maxI_mem r' i with e | e
    · rw [e]; exact a.1
    · exact a.2 _ ((h _).mpr e)
theorem maxOr_0 : ∀ {l : List Int}, (∀ x ∈ l, 0 ≤ x) → maxOr 0 l = maxI 0 l
  | [], _ => rfl
  | i :: r, h => by
    show maxI i r = maxI (if 0 < i then i else 0) r
    have := h i (List.mem_cons_self)
    split
    · rfl
    · rw [show i = 0 by omega]
theorem maxD_l {xs : List D} {l : List Int} {d : Int} (q : asInts xs = some l) : maxDM [.d (.lst xs)] [.d (.int d)] h = .ok (.w (.d (.int (maxOr d l)))) h := by
  show (match asInts xs with | some (i :: r) => Out.ok (vI (maxI i r)) h | some [] => .ok (vI d) h | none => .bad) = _
  rw [q]
  cases l <;> rfl
theorem e_maxD (q1 : P.kwa "max" 1 [("default" : Str)] = none) (q2 : P.cls "max" = none) (q3 : maxOk P "max" 1 [("default" : Str)] = true) : evalE P cl ρ (.callK "max" [e] [("default" : Str)] [v]) h = (evalWs P cl ρ [e] h).bind (hid (x := ⟨fun ws h => (evalWs P cl ρ [v] h).bind (hid (x := ⟨fun zs h => maxDM ws zs h⟩))⟩)) := by
  conv => lhs; unfold evalE
  simp only [List.length_cons, List.length_nil, Nat.zero_add, q1, q2, q3, if_true]
  rfl
/-! ### == -/
theorem eqvs_ints : ∀ {l l' : List Int}, D.eqvs (l.map D.int) (l'.map D.int) = decide (l = l')
  | [], [] => rfl
  | [], _ :: _ => rfl
  | _ :: _, [] => rfl
  | a :: l, b :: l' => by
    show (D.eqv (.int a) (.int b) && D.eqvs (l.map D.int) (l'.map D.int)) = _
    rw [eqvs_ints]
    show ((a == b) && decide (l = l')) = _
    by_cases e1 : a = b
    · by_cases e2 : l = l'
      · simp [e1, e2]
      · simp [e1, e2]
    · simp [e1]
theorem ints_pl {l : List Int} : D.pls (l.map D.int) = true := by
  rw [pls_all, List.all_eq_true]
  intro x hx
  obtain ⟨i, _, rfl⟩ := List.mem_map.mp hx
  rfl
theorem ints_dep {l : List Int} : D.deps (l.map D.int) ≤ 0 := deps_le fun x hx => by
  obtain ⟨i, _, rfl⟩ := List.mem_map.mp hx
  exact Nat.le_refl _
theorem eq_ints {l l' : List Int} : eqM P cl (.d (.lst (l.map D.int))) (.d (.lst (l'.map D.int))) h = .ok (decide (l = l')) h := by
  rw [eq_dd rfl]
  have e : eqD (.lst (l.map D.int)) (.lst (l'.map D.int)) = some (decide (l = l')) := by
    unfold eqD
    have p1 : (D.lst (l.map D.int)).pl = true := ints_pl
    have p2 : (D.lst (l'.map D.int)).pl = true := ints_pl
    have p3 : (D.lst (l.map D.int)).dep ≤ 60 := by show D.deps _ + 1 ≤ 60; have := ints_dep (l := l); omega
    rw [p1, p2, decide_eq_true p3]
    simp only [Bool.and_self, Bool.true_or, if_true]
    exact congrArg some eqvs_ints
  rw [e]
theorem eq_own {c : Str} {fs : List (Str × D)} {y : W} (q1 : (P.cls c).isSome = true) (q2 : P.isFn c "__eq__" = true) (q3 : y.typed P h = true) : eqM P cl (.d (.ins c fs)) y h = (cl c "__eq__" [.d (.ins c fs), y] h).toB := by
  show (if ((P.cls c).isSome && (P.isFn c "__eq__" && y.typed P h)) = true then _ else _) = _
  rw [q1, q2, q3]
  rfl
theorem eq_strs {s t : Str} : eqM P cl (.d (.str s)) (.d (.str t)) h = .ok (decide (s = t)) h := eq_ss
/-! ### comprehensions over something that becomes plain in the first turn -/
theorem lcGo_two {α : Type} {f : D → Cells → Out (Option D)} (φ : α → D) (g : α → D) {l : List α} (hne : l ≠ []) (hl : l.length ≤ sizeLine) (a0 : ∀ p ∈ l, f (φ p) h0 = .ok (some (g p)) h1) (a1 : ∀ p ∈ l, f (φ p) h1 = .ok (some (g p)) h1) : lcGo f (l.map φ) [] h0 = .ok (l.map g) h1 := by
  cases l with
  | nil => exact absurd rfl hne
  | cons p r =>
    rw [List.length_cons] at hl
    rw [List.map_cons]
    unfold lcGo
    rw [a0 p (List.mem_cons_self), bind_ok]
    simp only []
    rw [if_pos (show ([] : List D).length < sizeLine from Nat.lt_of_lt_of_le (Nat.zero_lt_succ _) hl), lcGo_map φ (fun x => some (g x)) (by simpa [Nat.add_comm] using hl) (fun q hq => a1 q (List.mem_cons_of_mem _ hq)), List.filterMap_eq_map']
    rfl
/-! ### loops by what was met -/
theorem forGo_okL {f : D → Env → Cells → SOut} (I : List D → Env → Cells → Prop) : ∀ {xs pre : List D} {ρ : Env} {h : Cells}, I pre ρ h → (∀ x ∈ xs, ∀ p ρ h, I p ρ h → TurnOk n (I (p ++ [x])) (f x ρ h)) → ∃ ρ' h', forGo n f xs ρ h = .nx ρ' h' ∧ I (pre ++ xs) ρ' h'
  | [], pre, ρ, h, hi, _ => ⟨ρ, h, rfl, by rw [List.append_nil]; exact hi⟩
  | x :: r, pre, ρ, h, hi, hs => by
    have q := hs x (List.mem_cons_self) pre ρ h hi
    unfold TurnOk at q
    unfold forGo
    have e2 : pre ++ x :: r = (pre ++ [x]) ++ r := by simp
    rw [e2]
    cases e : f x ρ h with
    | nx ρ' h' => rw [e] at q; exact forGo_okL I q fun y hy => hs y (List.mem_cons_of_mem _ hy)
    | ct ρ' h' => rw [e] at q; exact forGo_okL I q fun y hy => hs y (List.mem_cons_of_mem _ hy)
    | _ => rw [e] at q; exact q.elim
theorem next_forL {xs : List D} {f : D → Env → Cells → SOut} {T : SOut → Prop} {g : Env → Cells → SOut} (I : List D → Env → Cells → Prop) (hi : I [] ρ h) (hs : ∀ x ∈ xs, ∀ p ρ h, I p ρ h → TurnOk n (I (p ++ [x])) (f x ρ h)) (hk : ∀ ρ h, I xs ρ h → T (g ρ h)) : T ((forGo n f xs ρ h).next g) := by
  obtain ⟨ρ', h', e, q⟩ := forGo_okL I hi hs
  rw [e]
  exact hk ρ' h' q
end
end Pe.Pw
set_option maxHeartbeats 4000000
namespace Pe.Pw
open PySem
/-! ## texts of dicts from cells to numbers -/
theorem len_int {v : Int} (h0 : 0 ≤ v) (h : v < 10 ^ 31) : (PyData.shown (.int v)).length ≤ 31 := by
  obtain ⟨m, rfl⟩ := Int.eq_ofNat_of_zero_le h0
  simp only [PyData.shown]
  have e : toString (m : Int) = Nat.repr m := rfl
  rw [e]
  show (Str.ofString (Nat.repr m)).cps.size ≤ 31
  rw [Str.ofString_eq_toList]
  simp only [List.size_toArray, List.length_map, String.length_toList]
  exact (Nat.length_repr_le_iff (by decide)).mpr (by exact_mod_cast h)
theorem int_showable {v : Int} (h0 : 0 ≤ v) (h : v < 10 ^ 31) : (PyData.int v).showable = true := by
  simp only [PyData.showable, decide_eq_true_eq]
  by_cases z : v.natAbs = 0
  · rw [z]; decide
  · rw [Nat.log2_lt z]
    have h1 : v.natAbs < 10 ^ 31 := by omega
    have h2 : (10 : Nat) ^ 31 ≤ 2 ^ 1920 := by decide +kernel
    omega
def entP (q : Cell2 × Int) : PyData × PyData := (.tuple [.int q.1.1, .int q.1.2], .int q.2)
theorem pfk_kv : ∀ {l : List (Cell2 × Int)}, D.pfk (kv D.int l) = some (l.map entP)
  | [] => rfl
  | q :: r => by
    show (match (pD q.1).pf, (D.int q.2).pf, D.pfk (kv D.int r) with | some a, some b, some q => some ((a, b) :: q) | _, _, _ => none) = _
    rw [pfk_kv]
    rfl
def smallQ (q : Cell2 × Int) : Prop := (0 ≤ q.1.1 ∧ q.1.1 < 10 ^ 31) ∧ (0 ≤ q.1.2 ∧ q.1.2 < 10 ^ 31) ∧ 0 ≤ q.2 ∧ q.2 < 10 ^ 31
theorem ent_show {q : Cell2 × Int} (h : smallQ q) : (entP q).1.showable = true ∧ (entP q).2.showable = true := by
  refine ⟨?_, int_showable h.2.2.1 h.2.2.2⟩
  simp only [entP, PyData.showable, PyData.showableAll, Bool.and_true, Bool.and_eq_true]
  exact ⟨int_showable h.1.1 h.1.2, int_showable h.2.1.1 h.2.1.2⟩
theorem kv_show : ∀ {l : List (Cell2 × Int)}, (∀ q ∈ l, smallQ q) → PyData.showableKv (l.map entP) = true
  | [], _ => by simp only [List.map_nil, PyData.showableKv]
  | q :: r, h => by
    obtain ⟨h1, h2⟩ := ent_show (h q List.mem_cons_self)
    have ih := kv_show fun x hx => h x (List.mem_cons_of_mem _ hx)
    have e : entP q = ((entP q).1, (entP q).2) := rfl
    rw [List.map_cons, e]
    simp only [PyData.showableKv, h1, h2, ih, Bool.and_self]
theorem kv_depth : ∀ {l : List (Cell2 × Int)}, PyData.depthKv (l.map entP) ≤ 1
  | [] => by simp only [List.map_nil, PyData.depthKv]; omega
  | q :: r => by
    have ih := kv_depth (l := r)
    rw [List.map_cons]
    show PyData.depthKv ((.tuple [.int q.1.1, .int q.1.2], .int q.2) :: r.map entP) ≤ 1
    simp only [PyData.depthKv, PyData.depth, PyData.depthAll]
    omega
theorem ent_len {q : Cell2 × Int} (h : smallQ q) : ((entP q).1.shown ++ ": " ++ (entP q).2.shown : Str).length ≤ 110 := by
  have a1 := len_int h.1.1 h.1.2
  have a2 := len_int h.2.1.1 h.2.1.2
  have a3 := len_int h.2.2.1 h.2.2.2
  rw [strLen_append, strLen_append]
  have e : (entP q).1.shown = tupleText [(PyData.int q.1.1).shown, (PyData.int q.1.2).shown] := by simp only [entP, PyData.shown, PyData.shownAll]
  have a4 := tupleText_len_le [(PyData.int q.1.1).shown, (PyData.int q.1.2).shown]
  rw [← e] at a4
  simp only [List.map_cons, List.map_nil, List.sum_cons, List.sum_nil, List.length_cons, List.length_nil] at a4
  have a5 : ((": " : String) : Str).length = 2 := by decide +kernel
  have a6 : (entP q).2.shown = (PyData.int q.2).shown := rfl
  rw [a6]
  omega
theorem kv_len : ∀ {l : List (Cell2 × Int)}, (∀ q ∈ l, smallQ q) → ((PyData.shownKv (l.map entP)).map (·.length)).sum ≤ 110 * l.length ∧ (PyData.shownKv (l.map entP)).length = l.length
  | [], _ => by simp [PyData.shownKv]
  | q :: r, h => by
    obtain ⟨i1, i2⟩ := kv_len fun x hx => h x (List.mem_cons_of_mem _ hx)
    have a := ent_len (h q List.mem_cons_self)
    have e : entP q = ((entP q).1, (entP q).2) := rfl
    rw [List.map_cons, e]
    simp only [PyData.shownKv, List.map_cons, List.sum_cons, List.length_cons]
    omega
/-- the text of a dict from cells to numbers -/
theorem repr_kv {P : Prog} {cl : Cl} {h : Cells} {l : List (Cell2 × Int)} (hl : l.length ≤ 1000) (hs : ∀ q ∈ l, smallQ q) : blM P cl .repr [.d (.dic (kv D.int l))] h = .ok (.w (.d (.str (PyData.dict (l.map entP)).shown))) h := by
  show (match (reprD (kv D.int l)).map (fun s => vD (.str s)) with | some v => Out.ok v h | none => .bad) = _
  have e : reprD (kv D.int l) = some (PyData.dict (l.map entP)).shown := by
    unfold reprD
    rw [pfk_kv]
    simp only []
    have h1 : (PyData.dict (l.map entP)).shown.length ≤ sizeLine := by
      simp only [PyData.shown]
      have := dictText_len_le (PyData.shownKv (l.map entP))
      obtain ⟨i1, i2⟩ := kv_len hs
      have z : sizeLine = 16777216 := by decide
      omega
    have h2 : PyData.depthKv (l.map entP) ≤ 30 := Nat.le_trans kv_depth (by decide)
    rw [kv_show hs, decide_eq_true h1, decide_eq_true h2]
    rfl
  rw [e]; rfl
theorem repr_r {P : Prog} {cl : Cl} {h : Cells} {m : Nat} {lk : Bool} {l : List (Cell2 × Int)} (e : h[m]? = some ⟨.dic (kv D.int l), lk⟩) (hl : l.length ≤ 1000) (hs : ∀ q ∈ l, smallQ q) : blM P cl .repr [.r m] h = .ok (.w (.d (.str (PyData.dict (l.map entP)).shown))) h := by
  rw [← repr_kv (P := P) (cl := cl) (h := h) hl hs]
  show (match (rdAll h [.r m]) with | some ds => (match bltD .repr ds with | some v => Out.ok v h | none => .bad) | none => .bad) = _
  have e1 : rdAll h [.r m] = some [.dic (kv D.int l)] := by
    show (match W.rd h (.r m), rdAll h [] with | some d, some ds => some (d :: ds) | _, _ => none) = _
    rw [rd_r, e, rdL_dic]
    rfl
  rw [e1]
  rfl
end Pe.Pw
set_option maxHeartbeats 4000000
namespace Pe.Pw
open PySem
/-! ## dicts made from others; loops with an early end; sorted lists -/
section
variable {P : Prog} {cl : Cl} {wf : Nat} {h : Cells} {ρ : Env} {n : Nat} {α : Type} {f : α → D}
/-! ### hashes of small cells -/
def kh (p : Cell2) : Int := reduceHash (Builtin.Tuple.tupleHashOf [hashInt p.1, hashInt p.2])
theorem khash_keyP (p : Cell2) : khash (keyP p) = some (kh p) := rfl
theorem khashes_map : ∀ {l : List Cell2}, khashes (l.map keyP) = some (l.map kh)
  | [] => rfl
  | p :: r => by
    rw [List.map_cons]
    unfold khashes
    rw [khash_keyP, khashes_map]; rfl
theorem kh_grid : ((grid 10 10).map kh).Nodup := by decide +kernel
theorem inj_of_nodup {β : Type} {g : α → β} : ∀ {l : List α}, (l.map g).Nodup → ∀ {a b : α}, a ∈ l → b ∈ l → g a = g b → a = b
  | [], _, a, b, h, _, _ => by cases h
  | x :: r, nd, a, b, ha, hb, e => by
    rw [List.map_cons] at nd
    obtain ⟨n1, n2⟩ := List.nodup_cons.mp nd
    by_cases e1 : a = x
    · by_cases e2 : b = x
      · rw [e1, e2]
      · have hb' : b ∈ r := (List.mem_cons.mp hb).resolve_left e2
        exact absurd (List.mem_map.mpr ⟨b, hb', by rw [← e, e1]⟩) n1
    · have ha' : a ∈ r := (List.mem_cons.mp ha).resolve_left e1
      by_cases e2 : b = x
      · exact absurd (List.mem_map.mpr ⟨a, ha', by rw [e, e2]⟩) n1
      · exact inj_of_nodup n2 ha' ((List.mem_cons.mp hb).resolve_left e2) e
theorem nodup_on {β : Type} {g : α → β} : ∀ {l : List α}, l.Nodup → (∀ a ∈ l, ∀ b ∈ l, g a = g b → a = b) → (l.map g).Nodup
  | [], _, _ => List.nodup_nil
  | x :: r, nd, inj => by
    obtain ⟨n1, n2⟩ := List.nodup_cons.mp nd
    rw [List.map_cons]
    refine List.nodup_cons.mpr ⟨fun z => ?_, nodup_on n2 fun a ha b hb => inj a (List.mem_cons_of_mem _ ha) b (List.mem_cons_of_mem _ hb)⟩
    obtain ⟨b, hb, e⟩ := List.mem_map.mp z
    have := inj b (List.mem_cons_of_mem _ hb) x List.mem_cons_self e
    exact n1 (this ▸ hb)
theorem hks_map : ∀ {l : List Cell2}, hks (l.map pD) = some (l.map keyP)
  | [] => rfl
  | p :: r => by
    rw [List.map_cons]
    unfold hks
    rw [hk_pD, hks_map]; rfl
def small10 (p : Cell2) : Prop := (0 ≤ p.1 ∧ p.1 < 10) ∧ 0 ≤ p.2 ∧ p.2 < 10
theorem apart_cells {l : List Cell2} (nd : l.Nodup) (hs : ∀ p ∈ l, small10 p) : apartK (l.map keyP) = true := by
  unfold apartK
  rw [khashes_map]
  simp only [Bool.and_eq_true, decide_eq_true_eq]
  refine ⟨?_, nodup_on nd fun a ha b hb e => inj_of_nodup kh_grid (mem_grid (hs a ha)) (mem_grid (hs b hb)) e⟩
  rw [List.all_eq_true]
  intro k hk
  obtain ⟨p, _, rfl⟩ := List.mem_map.mp hk
  rfl
/-- dict(d) -/
theorem dict_kv {l : List (Cell2 × α)} (nd : (keys2 l).Nodup) (hs : ∀ p ∈ keys2 l, small10 p) : blM P cl .dict [.d (.dic (kv f l))] h = .ok (.new (.dic (kv f l))) h := by
  show (match (match hks ((kv f l).map (·.1)) with | some ks => if apartK ks = true then some (Val.new (.dic (kv f l))) else none | none => none) with | some v => Out.ok v h | none => .bad) = _
  rw [show (kv f l).map (·.1) = (keys2 l).map pD from kv_fst, hks_map]
  simp only [apart_cells nd hs, if_true]
/-- dict(pairs) -/
theorem dictP_gen {β : Type} (κ : β → D) (kf : β → NestedKey) (g : β → D) (hk : ∀ a, (κ a).hk = some (kf a)) : ∀ {l pre : List β}, ((pre ++ l).map kf).Nodup → pre.length + l.length ≤ sizeLine →
    dictP (pre.map fun a => (κ a, g a)) (l.map fun a => D.tup [κ a, g a]) = some ((pre ++ l).map fun a => (κ a, g a))
  | [], pre, _, _ => by rw [List.map_nil, List.append_nil]; rfl
  | a :: r, pre, nd, hl => by
    rw [List.length_cons] at hl
    rw [List.map_cons]
    unfold dictP
    simp only [hk a]
    rw [if_pos (by rw [List.length_map]; omega)]
    have e : dget (pre.map fun a => (κ a, g a)) (kf a) = none := by
      rw [dget_gen hk, find_non]; rfl
      intro z
      rw [List.map_append, List.map_cons] at nd
      exact (List.nodup_append.mp nd).2.2 _ z _ (List.mem_cons_self) rfl
    rw [dput_new e, show (pre.map fun a => (κ a, g a)) ++ [(κ a, g a)] = (pre ++ [a]).map fun a => (κ a, g a) by simp, dictP_gen κ kf g hk (pre := pre ++ [a]) (by simpa using nd) (by rw [List.length_append, List.length_singleton]; omega)]
    simp
theorem dict_pairs {β : Type} (κ : β → D) (kf : β → NestedKey) (g : β → D) (hk : ∀ a, (κ a).hk = some (kf a)) {l : List β} (nd : (l.map kf).Nodup) (hl : l.length ≤ sizeLine) : blM P cl .dict [.d (.lst (l.map fun a => D.tup [κ a, g a]))] h = .ok (.new (.dic (l.map fun a => (κ a, g a)))) h := by
  show (match (dictP [] (l.map fun a => D.tup [κ a, g a])).map (fun kvs => Val.new (.dic kvs)) with | some v => Out.ok v h | none => .bad) = _
  have := dictP_gen κ kf g hk (l := l) (pre := []) nd (by simpa using hl)
  rw [List.map_nil] at this
  rw [this]
  rfl
theorem keyP_nodup {l : List Cell2} (nd : l.Nodup) : (l.map keyP).Nodup := nodup_map (fun _ _ e => keyP_inj.mp e) nd
theorem dict_cells {l : List Cell2} {g : Cell2 → α} (nd : l.Nodup) (hl : l.length ≤ sizeLine) : blM P cl .dict [.d (.lst (l.map fun p => D.tup [pD p, f (g p)]))] h = .ok (.new (.dic (kv f (l.map fun p => (p, g p))))) h := by
  rw [dict_pairs (P := P) (cl := cl) (h := h) pD keyP (fun p => f (g p)) hk_pD (keyP_nodup nd) hl]
  unfold kv
  rw [List.map_map]
  rfl
/-! ### a loop that may end early -/
theorem forGo_guard {f : D → Env → Cells → SOut} {I : Env → Prop} (b : D → Bool) (v : Val) (hn : h.take n = h) : ∀ {xs : List D} {ρ : Env}, I ρ → (∀ x ∈ xs, ∀ ρ, I ρ → (b x = true → ∃ ρ', (f x ρ h = .nx ρ' h ∨ f x ρ h = .ct ρ' h) ∧ I (Env.keep n ρ')) ∧ (b x = false → f x ρ h = .rt v h)) →
    (xs.all b = true → ∃ ρ', forGo n f xs ρ h = .nx ρ' h ∧ I ρ') ∧ (xs.all b = false → forGo n f xs ρ h = .rt v h)
  | [], ρ, hi, _ => ⟨fun _ => ⟨ρ, rfl, hi⟩, fun z => by cases z⟩
  | x :: r, ρ, hi, hs => by
    obtain ⟨h1, h2⟩ := hs x (List.mem_cons_self) ρ hi
    rw [List.all_cons]
    unfold forGo
    cases e : b x with
    | false =>
      rw [h2 e]
      exact ⟨fun z => by simp at z, fun _ => rfl⟩
    | true =>
      obtain ⟨ρ', e1, e2⟩ := h1 e
      have ih := forGo_guard b v hn (xs := r) e2 fun y hy => hs y (List.mem_cons_of_mem _ hy)
      rcases e1 with e1 | e1 <;> (rw [e1, Bool.true_and]; simp only [hn]; exact ih)
theorem next_guard {xs : List D} {f : D → Env → Cells → SOut} {T : SOut → Prop} {g : Env → Cells → SOut} {I : Env → Prop} (b : D → Bool) (v : Val) (hn : h.take n = h) (hi : I ρ) (hs : ∀ x ∈ xs, ∀ ρ, I ρ → (b x = true → ∃ ρ', (f x ρ h = .nx ρ' h ∨ f x ρ h = .ct ρ' h) ∧ I (Env.keep n ρ')) ∧ (b x = false → f x ρ h = .rt v h))
    (k1 : ∀ ρ, xs.all b = true → I ρ → T (g ρ h)) (k2 : xs.all b = false → T (.rt v h)) : T ((forGo n f xs ρ h).next g) := by
  obtain ⟨a1, a2⟩ := forGo_guard b v hn hi hs
  cases e : xs.all b with
  | true =>
    obtain ⟨ρ', e1, e2⟩ := a1 e
    rw [e1]
    exact k1 ρ' e e2
  | false =>
    rw [a2 e]
    exact k2 e
/-! ### sorted cells -/
theorem leP_total (a b : Cell2) : (leP a b || leP b a) = true := by
  unfold leP
  rw [Bool.or_eq_true, decide_eq_true_eq, decide_eq_true_eq]
  omega
theorem leP_trans (a b c : Cell2) (h1 : leP a b = true) (h2 : leP b c = true) : leP a c = true := by
  unfold leP at *
  rw [decide_eq_true_eq] at *
  omega
theorem sortC_idem {l : List Cell2} : sortC (sortC l) = sortC l := by
  unfold sortC
  exact List.mergeSort_of_pairwise (List.pairwise_mergeSort leP_trans leP_total l)
theorem cellsOf_sorted {l : List Cell2} (nd : (sortC l).Nodup) : cellsOf (sortC l) = sortC l := by
  unfold cellsOf
  rw [dedup_of_nodup nd, sortC_idem]
/-! ### len of an object -/
theorem len_own {c : Str} {fs : List (Str × D)} (q : ((P.cls c).isSome && P.isFn c "__len__") = true) : blM P cl .len [.d (.ins c fs)] h = (cl c "__len__" [.d (.ins c fs)] h).bind (hid (x := ⟨fun v h => match v with
    | .w (.d (.int i)) => if 0 ≤ i ∧ i < 2 ^ 63 then .ok (.w (.d (.int i))) h else .bad
    | _ => .bad⟩)) := by
  show (if ((P.cls c).isSome && P.isFn c "__len__") = true then _ else _) = _
  rw [q]
  rfl
end
end Pe.Pw
set_option maxHeartbeats 4000000
namespace Pe.Pw
open PySem
section
variable {P : Prog} {cl : Cl} {h : Cells} {ρ : Env} {n : Nat} {α β : Type}
/-! ## draws along a list; loops by what was met and what is left -/
theorem lcGo_drawL (ψ : α → D) (φ : α → β → D) (ok : α → β → Prop) (I : Cells → Prop) {f : D → Cells → Out (Option D)} {l : List α} (hl : l.length ≤ sizeLine) (h0 : I h) (hs : ∀ a ∈ l, ∀ h, I h → (f (ψ a) h).Wp fun y h => I h ∧ ∃ v, y = some (φ a v) ∧ ok a v) :
    (lcGo f (l.map ψ) [] h).calm.Wp fun ys h => I h ∧ ∃ vs : List (α × β), vs.map (·.1) = l ∧ ys = vs.map (fun q => φ q.1 q.2) ∧ ∀ q ∈ vs, ok q.1 q.2 := by
  have key : ∀ (l : List α) (qs : List (α × β)) (h : Cells), (∀ a ∈ l, ∀ h, I h → (f (ψ a) h).Wp fun y h => I h ∧ ∃ v, y = some (φ a v) ∧ ok a v) → (∀ q ∈ qs, ok q.1 q.2) → qs.length + l.length ≤ sizeLine → I h → (lcGo f (l.map ψ) (qs.map fun q => φ q.1 q.2) h).Wp fun ys h => I h ∧ ∃ vs : List (α × β), vs.map (·.1) = qs.map (·.1) ++ l ∧ ys = vs.map (fun q => φ q.1 q.2) ∧ ∀ q ∈ vs, ok q.1 q.2 := by
    intro l
    induction l with
    | nil => intro qs h _ hq _ hi; exact ⟨hi, qs, by simp, rfl, hq⟩
    | cons x r ih =>
      intro qs h hs hq hl hi
      rw [List.length_cons] at hl
      obtain ⟨y, h', e, hi', v, rfl, hv⟩ := (hs x (List.mem_cons_self) h hi).elim
      rw [List.map_cons]
      unfold lcGo
      rw [e, bind_ok]
      simp only
      rw [if_pos (by rw [List.length_map]; omega), show (qs.map fun q => φ q.1 q.2) ++ [φ x v] = (qs ++ [(x, v)]).map fun q => φ q.1 q.2 by simp]
      obtain ⟨ys, h2, e2, i2, vs, e3, e4, h3⟩ := (ih (qs ++ [(x, v)]) h' (fun z hz => hs z (List.mem_cons_of_mem _ hz)) (fun z hz => by
        rcases List.mem_append.mp hz with hz | hz
        · exact hq z hz
        · rw [List.mem_singleton.mp hz]; exact hv) (by rw [List.length_append, List.length_singleton]; omega) hi').elim
      rw [e2]
      exact ⟨i2, vs, by rw [e3]; simp, e4, h3⟩
  refine calm_wp ?_
  obtain ⟨ys, h2, e2, i2, vs, e3, e4, h3⟩ := (key l [] h hs (fun q hq => by cases hq) (by simpa using hl) h0).elim
  rw [List.map_nil] at e2
  rw [e2]
  exact ⟨i2, vs, by simpa using e3, e4, h3⟩
theorem forGo_okP {f : D → Env → Cells → SOut} (I : List D → Env → Cells → Prop) : ∀ {xs pre : List D} {ρ : Env} {h : Cells}, I pre ρ h → (∀ p x q, pre ++ xs = p ++ x :: q → pre.length ≤ p.length → ∀ ρ h, I p ρ h → TurnOk n (I (p ++ [x])) (f x ρ h)) → ∃ ρ' h', forGo n f xs ρ h = .nx ρ' h' ∧ I (pre ++ xs) ρ' h'
  | [], pre, ρ, h, hi, _ => ⟨ρ, h, rfl, by rw [List.append_nil]; exact hi⟩
  | x :: r, pre, ρ, h, hi, hs => by
    have q := hs pre x r rfl (Nat.le_refl _) ρ h hi
    unfold TurnOk at q
    unfold forGo
    have e2 : pre ++ x :: r = (pre ++ [x]) ++ r := by simp
    rw [e2]
    have hs' : ∀ p y q, (pre ++ [x]) ++ r = p ++ y :: q → (pre ++ [x]).length ≤ p.length → ∀ ρ h, I p ρ h → TurnOk n (I (p ++ [y])) (f y ρ h) := fun p y q e l => hs p y q (by rw [e2]; exact e) (by rw [List.length_append] at l; omega)
    cases e : f x ρ h with
    | nx ρ' h' => rw [e] at q; exact forGo_okP I q hs'
    | ct ρ' h' => rw [e] at q; exact forGo_okP I q hs'
    | _ => rw [e] at q; exact q.elim
theorem next_forP {xs : List D} {f : D → Env → Cells → SOut} {T : SOut → Prop} {g : Env → Cells → SOut} (I : List D → Env → Cells → Prop) (hi : I [] ρ h) (hs : ∀ p x q, xs = p ++ x :: q → ∀ ρ h, I p ρ h → TurnOk n (I (p ++ [x])) (f x ρ h)) (hk : ∀ ρ h, I xs ρ h → T (g ρ h)) : T ((forGo n f xs ρ h).next g) := by
  obtain ⟨ρ', h', e, q⟩ := forGo_okP (pre := []) I hi fun p x q e _ => hs p x q (by simpa using e)
  rw [e]
  exact hk ρ' h' (by simpa using q)
/-! ### == -/
theorem eqvs_nil : ∀ {xs : List D}, D.eqvs xs [] = xs.isEmpty
  | [] => rfl
  | x :: r => rfl
theorem eq_nil {xs : List D} (q : D.pls xs = true) (q2 : D.deps xs ≤ 59) : eqM P cl (.d (.lst xs)) (.d (.lst [])) h = .ok xs.isEmpty h := by
  rw [eq_dd rfl]
  have e : eqD (.lst xs) (.lst []) = some xs.isEmpty := by
    unfold eqD
    have p1 : (D.lst xs).pl = true := q
    have p3 : (D.lst xs).dep ≤ 60 := by show D.deps _ + 1 ≤ 60; omega
    have p2 : (D.lst []).pl = true := rfl
    rw [p1, p2, decide_eq_true p3]
    simp only [Bool.and_self, Bool.true_or, if_true]
    exact congrArg some eqvs_nil
  rw [e]
theorem cells_pls {l : List Cell2} : D.pls (l.map pD) = true := by
  rw [pls_all, List.all_eq_true]
  intro x hx
  obtain ⟨p, _, rfl⟩ := List.mem_map.mp hx
  rfl
theorem cells_deps {l : List Cell2} : D.deps (l.map pD) ≤ 59 := deps_le fun x hx => by
  obtain ⟨p, _, rfl⟩ := List.mem_map.mp hx
  show D.dep (.tup [.int p.1, .int p.2]) ≤ 59
  simp [D.dep, D.deps]
theorem eq_cells0 {l : List Cell2} : eqM P cl (.d (.lst (l.map pD))) (.d (.lst [])) h = .ok (l.map pD).isEmpty h := eq_nil cells_pls cells_deps
theorem eq_pD {p q : Cell2} : eqM P cl (.d (pD p)) (.d (pD q)) h = .ok (decide (p = q)) h := by
  unfold pD
  rw [eq_dd rfl]
  have e : eqD (.tup [.int p.1, .int p.2]) (.tup [.int q.1, .int q.2]) = some (decide (p = q)) := by
    show some (D.eqv (.tup [.int p.1, .int p.2]) (.tup [.int q.1, .int q.2])) = _
    obtain ⟨a, b⟩ := p
    obtain ⟨c, d⟩ := q
    refine congrArg some ?_
    show ((a == c) && ((b == d) && true)) = _
    by_cases e1 : a = c <;> by_cases e2 : b = d <;> simp [e1, e2]
  rw [e]
/-! ### parts of lists -/
theorem cut_l {xs : List D} {l u : Option Int} : cutM (.d (.lst xs)) l u h = .ok (.new (.lst ((xs.drop (cutIx xs.length 0 l)).take (cutIx xs.length xs.length u - cutIx xs.length 0 l)))) h := rfl
theorem cut_from1 {xs : List D} : cutM (.d (.lst xs)) (some 1) none h = .ok (.new (.lst (xs.drop 1))) h := by
  rw [cut_l]
  have e1 : cutIx xs.length 0 (some 1) = min 1 xs.length := rfl
  have e2 : cutIx xs.length xs.length none = xs.length := rfl
  rw [e1, e2]
  cases xs with
  | nil => rfl
  | cons x r =>
    have : min 1 (x :: r).length = 1 := by simp
    rw [this]
    simp
theorem cut_to1 {xs : List D} : cutM (.d (.lst xs)) none (some 1) h = .ok (.new (.lst (xs.take 1))) h := by
  rw [cut_l]
  have e1 : cutIx xs.length 0 none = 0 := rfl
  have e2 : cutIx xs.length xs.length (some 1) = min 1 xs.length := rfl
  rw [e1, e2]
  cases xs with
  | nil => rfl
  | cons x r =>
    have : min 1 (x :: r).length = 1 := by simp
    rw [this]
    simp
theorem sub_last {xs : List D} {x : D} (h1 : xs[xs.length - 1]? = some x) : subM (.d (.lst xs)) (.int (-1)) h = .ok (.w (.d x)) h := by
  refine sub_d ?_
  have hl := (List.getElem?_eq_some_iff.mp h1).1
  have e : ixAt xs.length (-1) = some (xs.length - 1) := by
    unfold ixAt
    rw [if_neg (by decide), if_pos (by omega)]
    congr 1
    omega
  show (match ixAt xs.length (-1) with | some j => xs[j]? | none => none) = some x
  rw [e]; exact h1
/-! ### stores into dicts -/
theorem put_dic {kvs : List (D × D)} {k x : D} {kk : NestedKey} {m : Nat} (hk : k.hk = some kk) (hz : kvs.length < sizeLine) : putL m (some ⟨.dic kvs, false⟩) k x h = .ok () (h.set m ⟨.dic (dput kvs k kk x), false⟩) := by
  show (match (match k.hk with | some kk => if kvs.length < sizeLine then some (Ob.dic (dput kvs k kk x)) else none | none => none) with | some o' => Out.ok () (h.set m ⟨o', false⟩) | none => .bad) = _
  rw [hk]
  simp only [if_pos hz]
theorem dput_mem : ∀ {kvs : List (D × β)} {kd : D} {k : NestedKey} {x : β}, ∃ d, (d, x) ∈ dput kvs kd k x
  | [], kd, k, x => ⟨kd, List.mem_singleton.mpr rfl⟩
  | (d, y) :: r, kd, k, x => by
    unfold dput
    split
    · exact ⟨d, List.mem_cons_self⟩
    · obtain ⟨z, hz⟩ := dput_mem (kvs := r) (kd := kd) (k := k) (x := x)
      exact ⟨z, List.mem_cons_of_mem _ hz⟩
theorem dput_sub : ∀ {kvs : List (D × β)} {kd : D} {k : NestedKey} {x : β} {q : D × β}, q ∈ dput kvs kd k x → q ∈ kvs ∨ (q.2 = x ∧ (q.1 = kd ∨ ∃ y, (q.1, y) ∈ kvs))
  | [], kd, k, x, q, h => by rw [List.mem_singleton.mp h]; exact .inr ⟨rfl, .inl rfl⟩
  | (d, y) :: r, kd, k, x, q, h => by
    unfold dput at h
    split at h
    · rcases List.mem_cons.mp h with z | z
      · rw [z]; exact .inr ⟨rfl, .inr ⟨y, List.mem_cons_self⟩⟩
      · exact .inl (List.mem_cons_of_mem _ z)
    · rcases List.mem_cons.mp h with z | z
      · rw [z]; exact .inl List.mem_cons_self
      · rcases dput_sub z with w | ⟨w, w2⟩
        · exact .inl (List.mem_cons_of_mem _ w)
        · exact .inr ⟨w, w2.imp id fun ⟨y, hy⟩ => ⟨y, List.mem_cons_of_mem _ hy⟩⟩
theorem dput_len : ∀ {kvs : List (D × β)} {kd : D} {k : NestedKey} {x : β}, (dput kvs kd k x).length ≤ kvs.length + 1
  | [], _, _, _ => Nat.le_refl _
  | (d, y) :: r, kd, k, x => by
    unfold dput
    split
    · simp
    · have := dput_len (kvs := r) (kd := kd) (k := k) (x := x)
      rw [List.length_cons, List.length_cons]
      omega
theorem minI_le (r : List Int) : ∀ i, minI i r ≤ i ∧ ∀ y ∈ r, minI i r ≤ y := by
  induction r with
  | nil => exact fun i => ⟨Int.le_refl _, fun y hy => by cases hy⟩
  | cons j r ih =>
    intro i
    show minI (if j < i then j else i) r ≤ i ∧ ∀ y ∈ j :: r, minI (if j < i then j else i) r ≤ y
    obtain ⟨h1, h2⟩ := ih (if j < i then j else i)
    refine ⟨?_, fun y hy => ?_⟩
    · split at h1 <;> rename_i q <;> simp only [q, if_true, if_false] <;> omega
    · rcases List.mem_cons.mp hy with rfl | hy
      · split at h1 <;> rename_i q <;> simp only [q, if_true, if_false] <;> omega
      · exact h2 y hy
theorem minI_mem (r : List Int) : ∀ i, minI i r = i ∨ minI i r ∈ r := by
  induction r with
  | nil => exact fun i => .inl rfl
  | cons j r ih =>
    intro i
    show minI (if j < i then j else i) r = i ∨ minI (if j < i then j else i) r ∈ j :: r
    split
    · rcases ih j with e | e
      · exact .inr (by rw [e]; exact List.mem_cons_self)
      · exact .inr (List.mem_cons_of_mem _ e)
    · exact (ih i).imp id (List.mem_cons_of_mem _)
end
end Pe.Pw
set_option maxHeartbeats 4000000
namespace Pe.Pv
open PySem Pw
def F_is_integer : FDef := { ps := ["candidate"], ns := ["candidate"], body := [.ret (some (.and (.isi (.var 0) .int) (.not (.isi (.var 0) .bool))))] }
def F_is_number : FDef := { ps := ["candidate", "least", "greatest"], ns := ["candidate", "least", "greatest"], body := [.ret (some (.and (.call "is_integer" [(.var 0)]) (.chain .LtE .LtE (.var 1) (.var 0) (.var 2))))] }
def F_is_height : FDef := { ps := ["candidate"], ns := ["candidate"], body := [.ret (some (.call "is_number" [(.var 0), (.con (.int 0)), (.glob "MAX_HEIGHT")]))] }
def F_is_pair : FDef := { ps := ["candidate"], ns := ["candidate"], body := [.ret (some (.and (.isi (.var 0) .tuple) (.cmp .Eq (.call "len" [(.var 0)]) (.con (.int 2)))))] }
def F_Plan_DinitD : FDef := { ps := ["self", "rows", "columns", "cells"], ns := ["self", "rows", "columns", "cells", "cell"], body := [.ife (.or (.not (.call "is_number" [(.var 1), (.con (.int 1)), (.glob "MAX_SIZE")])) (.or (.not (.call "is_number" [(.var 2), (.con (.int 1)), (.glob "MAX_SIZE")])) (.not (.isi (.var 3) .list)))) [.raise "InvalidPlan" []] [],
  .setA (.var 0) "row_count" false (.var 1),
  .setA (.var 0) "column_count" false (.var 2),
  .ife (.not (.call "all" [(.lc (.meth (.var 0) "is_place" [(.var 4)]) (.name 4) (.val (.var 3)) none)])) [.raise "InvalidPlan" []] [],
  .setA (.var 0) "own_cells" false (.call "sorted" [(.dc (.var 4) (.con (.bl true)) (.name 4) (.val (.var 3)) none)]),
  .setA (.var 0) "places" false (.dc (.var 4) (.con (.bl true)) (.name 4) (.val (.attr (.var 0) "own_cells")) none)] }
def F_Plan_is_place : FDef := { ps := ["self", "candidate"], ns := ["self", "candidate", "row", "column"], body := [.ife (.not (.call "is_pair" [(.var 1)])) [.ret (some (.con (.bl false)))] [],
  .asg (.tup [2, 3]) false (.var 1),
  .ret (some (.and (.call "is_number" [(.var 2), (.con (.int 0)), (.bin .Sub (.attr (.var 0) "row_count") (.con (.int 1)))]) (.call "is_number" [(.var 3), (.con (.int 0)), (.bin .Sub (.attr (.var 0) "column_count") (.con (.int 1)))])))] }
def F_Plan_rows : FDef := { ps := ["self"], ns := ["self"], body := [.ret (some (.attr (.var 0) "row_count"))] }
def F_Plan_columns : FDef := { ps := ["self"], ns := ["self"], body := [.ret (some (.attr (.var 0) "column_count"))] }
def F_Plan_cells : FDef := { ps := ["self"], ns := ["self"], body := [.ret (some (.call "list" [(.attr (.var 0) "own_cells")]))] }
def F_Plan_DlenD : FDef := { ps := ["self"], ns := ["self"], body := [.ret (some (.call "len" [(.attr (.var 0) "own_cells")]))] }
def F_Plan_DeqD : FDef := { ps := ["self", "other"], ns := ["self", "other"], body := [.ife (.not (.isi (.var 1) (.own "Plan"))) [.ret (some (.con (.bl false)))] [],
  .ife (.or (.cmp .NotEq (.attr (.var 0) "row_count") (.attr (.var 1) "row_count")) (.cmp .NotEq (.attr (.var 0) "column_count") (.attr (.var 1) "column_count"))) [.ret (some (.con (.bl false)))] [],
  .ret (some (.cmp .Eq (.attr (.var 0) "own_cells") (.attr (.var 1) "own_cells")))] }
def F_Plan_is_cell : FDef := { ps := ["self", "candidate"], ns := ["self", "candidate"], body := [.ret (some (.and (.meth (.var 0) "is_place" [(.var 1)]) (.cmp .In (.var 1) (.attr (.var 0) "places"))))] }
def F_Plan_is_line : FDef := { ps := ["self", "candidate"], ns := ["self", "candidate"], body := [.ret (some (.call "is_line_within" [(.var 1), (.attr (.var 0) "row_count"), (.attr (.var 0) "column_count")]))] }
def F_Plan_lines : FDef := { ps := ["self"], ns := ["self", "rows", "number"], body := [.asg (.name 1) false (.lc (.tup [(.con (.str "row")), (.var 2)]) (.name 2) (.range (.attr (.var 0) "row_count")) none),
  .ret (some (.bin .Add (.var 1) (.lc (.tup [(.con (.str "column")), (.var 2)]) (.name 2) (.range (.attr (.var 0) "column_count")) none)))] }
def F_Plan_cells_of : FDef := { ps := ["self", "line"], ns := ["self", "line", "kind", "number", "cell"], body := [.ife (.not (.meth (.var 0) "is_line" [(.var 1)])) [.raise "InvalidLine" []] [],
  .asg (.tup [2, 3]) false (.var 1),
  .ret (some (.lc (.var 4) (.name 4) (.val (.attr (.var 0) "own_cells")) (some (.cmp .Eq (.sub (.var 4) (.ife (.cmp .Eq (.var 2) (.con (.str "row"))) (.con (.int 0)) (.con (.int 1)))) (.var 3)))))] }
def F_is_line_within : FDef := { ps := ["candidate", "rows", "columns"], ns := ["candidate", "rows", "columns"], body := [.ife (.or (.not (.call "is_pair" [(.var 0)])) (.not (.isi (.sub (.var 0) (.con (.int 0))) .str))) [.ret (some (.con (.bl false)))] [],
  .ife (.cmp .Eq (.sub (.var 0) (.con (.int 0))) (.con (.str "row"))) [.ret (some (.call "is_number" [(.sub (.var 0) (.con (.int 1))), (.con (.int 0)), (.bin .Sub (.var 1) (.con (.int 1)))]))] [],
  .ret (some (.and (.cmp .Eq (.sub (.var 0) (.con (.int 0))) (.con (.str "column"))) (.call "is_number" [(.sub (.var 0) (.con (.int 1))), (.con (.int 0)), (.bin .Sub (.var 2) (.con (.int 1)))])))] }
def F_lines_through : FDef := { ps := ["cell"], ns := ["cell"], body := [.ret (some (.lst [(.tup [(.con (.str "row")), (.sub (.var 0) (.con (.int 0)))]), (.tup [(.con (.str "column")), (.sub (.var 0) (.con (.int 1)))])]))] }
def F_is_height_list : FDef := { ps := ["candidate"], ns := ["candidate", "height"], body := [.ife (.or (.not (.isi (.var 0) .list)) (.not (.chain .LtE .LtE (.con (.int 1)) (.call "len" [(.var 0)]) (.glob "MAX_SIZE")))) [.ret (some (.con (.bl false)))] [],
  .ret (some (.call "all" [(.lc (.call "is_height" [(.var 1)]) (.name 1) (.val (.var 0)) none)]))] }
def F_Views_DinitD : FDef := { ps := ["self", "rows", "columns"], ns := ["self", "rows", "columns"], body := [.ife (.or (.not (.call "is_height_list" [(.var 1)])) (.not (.call "is_height_list" [(.var 2)]))) [.raise "InvalidViews" []] [],
  .setA (.var 0) "side" false (.call "list" [(.var 1)]),
  .setA (.var 0) "front" false (.call "list" [(.var 2)])] }
def F_Views_row_heights : FDef := { ps := ["self"], ns := ["self"], body := [.ret (some (.call "list" [(.attr (.var 0) "side")]))] }
def F_Views_column_heights : FDef := { ps := ["self"], ns := ["self"], body := [.ret (some (.call "list" [(.attr (.var 0) "front")]))] }
def F_Views_DeqD : FDef := { ps := ["self", "other"], ns := ["self", "other"], body := [.ret (some (.and (.isi (.var 1) (.own "Views")) (.and (.cmp .Eq (.attr (.var 0) "side") (.attr (.var 1) "side")) (.cmp .Eq (.attr (.var 0) "front") (.attr (.var 1) "front")))))] }
def F_Views_check_line : FDef := { ps := ["self", "line"], ns := ["self", "line"], body := [.ife (.not (.call "is_line_within" [(.var 1), (.call "len" [(.attr (.var 0) "side")]), (.call "len" [(.attr (.var 0) "front")])])) [.raise "InvalidLine" []] []] }
def F_Views_height_of : FDef := { ps := ["self", "line"], ns := ["self", "line"], body := [.expr (.meth (.var 0) "check_line" [(.var 1)]),
  .ret (some (.ife (.cmp .Eq (.sub (.var 1) (.con (.int 0))) (.con (.str "row"))) (.sub (.attr (.var 0) "side") (.sub (.var 1) (.con (.int 1)))) (.sub (.attr (.var 0) "front") (.sub (.var 1) (.con (.int 1))))))] }
def F_is_pile : FDef := { ps := ["plan", "candidate"], ns := ["plan", "candidate", "cell", "height"], body := [.ife (.or (.not (.isi (.var 1) .dict)) (.cmp .NotEq (.call "len" [(.var 1)]) (.call "len" [(.var 0)]))) [.ret (some (.con (.bl false)))] [],
  .ret (some (.call "all" [(.lc (.and (.meth (.var 0) "is_cell" [(.var 2)]) (.call "is_height" [(.var 3)])) (.tup [2, 3]) (.items (.var 1)) none)]))] }
def F_views_of : FDef := { ps := ["plan", "pile"], ns := ["plan", "pile", "heights", "cell", "line", "rows", "number"], body := [.asg (.name 2) false (.dc (.var 4) (.callK "max" [(.lc (.sub (.var 1) (.var 3)) (.name 3) (.val (.meth (.var 0) "cells_of" [(.var 4)])) none)] ["default"] [(.con (.int 0))]) (.name 4) (.val (.meth (.var 0) "lines" [])) none),
  .asg (.name 5) false (.lc (.sub (.var 2) (.tup [(.con (.str "row")), (.var 6)])) (.name 6) (.range (.attr (.var 0) "rows")) none),
  .ret (some (.call "Views" [(.var 5), (.lc (.sub (.var 2) (.tup [(.con (.str "column")), (.var 6)])) (.name 6) (.range (.attr (.var 0) "columns")) none)]))] }
def F_is_within : FDef := { ps := ["task", "cell", "height"], ns := ["task", "cell", "height", "lower", "upper"], body := [.asg (.tup [3, 4]) false (.meth (.var 0) "bounds_of" [(.var 1)]),
  .ret (some (.and (.cmp .LtE (.var 3) (.var 2)) (.or (.cmp .Is (.var 4) (.con .non)) (.cmp .LtE (.var 2) (.var 4)))))] }
def F_fits : FDef := { ps := ["task", "candidate"], ns := ["task", "candidate", "cell", "height"], body := [.ife (.or (.not (.call "is_pile" [(.attr (.var 0) "plan"), (.var 1)])) (.cmp .NotEq (.call "views_of" [(.attr (.var 0) "plan"), (.var 1)]) (.attr (.var 0) "views"))) [.ret (some (.con (.bl false)))] [],
  .ret (some (.call "all" [(.lc (.call "is_within" [(.var 0), (.var 2), (.var 3)]) (.tup [2, 3]) (.items (.var 1)) none)]))] }
def F_are_bounds : FDef := { ps := ["candidate"], ns := ["candidate"], body := [.ife (.or (.not (.call "is_pair" [(.var 0)])) (.not (.call "is_height" [(.sub (.var 0) (.con (.int 0)))]))) [.ret (some (.con (.bl false)))] [],
  .ret (some (.or (.cmp .Is (.sub (.var 0) (.con (.int 1))) (.con .non)) (.and (.call "is_height" [(.sub (.var 0) (.con (.int 1)))]) (.cmp .LtE (.sub (.var 0) (.con (.int 0))) (.sub (.var 0) (.con (.int 1)))))))] }
def F_check_bounds : FDef := { ps := ["plan", "bounds"], ns := ["plan", "bounds", "cell", "pair"], body := [.ife (.cmp .Is (.var 1) (.con .non)) [.ret none] [],
  .ife (.not (.isi (.var 1) .dict)) [.nope] [],
  .forr (.tup [2, 3]) (.items (.var 1)) [.ife (.or (.not (.meth (.var 0) "is_cell" [(.var 2)])) (.not (.call "are_bounds" [(.var 3)]))) [.nope] []]] }
def F_check_views : FDef := { ps := ["plan", "views"], ns := ["plan", "views"], body := [.ife (.or (.not (.isi (.var 1) (.own "Views"))) (.cmp .NotEq (.call "len" [(.attr (.var 1) "row_heights")]) (.attr (.var 0) "rows"))) [.raise "InvalidViews" []] [],
  .ife (.cmp .NotEq (.call "len" [(.attr (.var 1) "column_heights")]) (.attr (.var 0) "columns")) [.raise "InvalidViews" []] []] }
def F_Task_DinitD : FDef := { ps := ["self", "plan", "views", "bounds"], ns := ["self", "plan", "views", "bounds", "cell"], body := [.ife (.not (.isi (.var 1) (.own "Plan"))) [.raise "InvalidPlan" []] [],
  .expr (.call "check_views" [(.var 1), (.var 2)]),
  .expr (.call "check_bounds" [(.var 1), (.var 3)]),
  .setA (.var 0) "own_plan" false (.var 1),
  .setA (.var 0) "own_views" false (.var 2),
  .setA (.var 0) "limits" false .dnew,
  .ife (.cmp .IsNot (.var 3) (.con .non)) [.setA (.var 0) "limits" false (.dc (.var 4) (.sub (.var 3) (.var 4)) (.name 4) (.val (.call "sorted" [(.var 3)])) (some (.cmp .NotEq (.sub (.var 3) (.var 4)) (.glob "NO_BOUNDS"))))] [],
  .setA (.var 0) "tops" false (.dc (.var 4) (.meth (.var 0) "least_limit" [(.var 4)]) (.name 4) (.val (.attr (.var 1) "cells")) none)] }
def F_Task_plan : FDef := { ps := ["self"], ns := ["self"], body := [.ret (some (.attr (.var 0) "own_plan"))] }
def F_Task_views : FDef := { ps := ["self"], ns := ["self"], body := [.ret (some (.attr (.var 0) "own_views"))] }
def F_Task_bounds : FDef := { ps := ["self"], ns := ["self"], body := [.ret (some (.call "dict" [(.attr (.var 0) "limits")]))] }
def F_Task_DeqD : FDef := { ps := ["self", "other"], ns := ["self", "other"], body := [.ret (some (.and (.isi (.var 1) (.own "Task")) (.cmp .Eq (.meth (.var 0) "parts" []) (.meth (.var 1) "parts" []))))] }
def F_Task_parts : FDef := { ps := ["self"], ns := ["self"], body := [.ret (some (.tup [(.attr (.var 0) "own_plan"), (.attr (.var 0) "own_views"), (.attr (.var 0) "limits")]))] }
def F_Task_least_limit : FDef := { ps := ["self", "cell"], ns := ["self", "cell", "limits", "line", "upper"], body := [.asg (.name 2) false (.lc (.meth (.attr (.var 0) "own_views") "height_of" [(.var 3)]) (.name 3) (.val (.call "lines_through" [(.var 1)])) none),
  .asg (.name 4) false (.sub (.bm (.attr (.var 0) "limits") "get" [(.var 1), (.glob "NO_BOUNDS")]) (.con (.int 1))),
  .ret (some (.ife (.cmp .Is (.var 4) (.con .non)) (.call "min" [(.var 2)]) (.call "min" [(.lstS (.var 2) [(.var 4)])])))] }
def F_Task_check_cell : FDef := { ps := ["self", "cell"], ns := ["self", "cell"], body := [.ife (.not (.meth (.attr (.var 0) "own_plan") "is_cell" [(.var 1)])) [.raise "InvalidCell" []] []] }
def F_Task_bounds_of : FDef := { ps := ["self", "cell"], ns := ["self", "cell"], body := [.expr (.meth (.var 0) "check_cell" [(.var 1)]),
  .ret (some (.bm (.attr (.var 0) "limits") "get" [(.var 1), (.glob "NO_BOUNDS")]))] }
def F_Task_lower : FDef := { ps := ["self", "cell"], ns := ["self", "cell"], body := [.ret (some (.sub (.bm (.attr (.var 0) "limits") "get" [(.var 1), (.glob "NO_BOUNDS")]) (.con (.int 0))))] }
def F_Task_top : FDef := { ps := ["self", "cell"], ns := ["self", "cell"], body := [.expr (.meth (.var 0) "check_cell" [(.var 1)]),
  .ret (some (.sub (.attr (.var 0) "tops") (.var 1)))] }
def F__law_stream : FDef := { ps := ["script", "k"], ns := ["script", "k", "cell", "size", "mixed"], body := [.asg (.name 2) false (.con (.int 0)),
  .ife (.cmp .Lt (.var 1) (.call "len" [(.var 0)])) [.asg (.name 2) false (.sub (.var 0) (.var 1))] [],
  .asg (.name 3) false (.call "max" [(.var 2), (.bin .Sub (.neg (.con (.int 1))) (.var 2))]),
  .asg (.name 4) false (.bin .Mod (.bin .Mult (.bin .Add (.bin .Add (.bin .Add (.bin .Mod (.var 3) (.con (.int 2147483629))) (.bin .Mult (.bin .Mult (.con (.int 7919)) (.var 1)) (.var 1))) (.bin .Mult (.con (.int 31)) (.var 1))) (.con (.int 17))) (.con (.int 48271))) (.con (.int 2147483647))),
  .ret (some (.lst [(.bin .Mult (.var 3) (.call "int" [(.cmp .GtE (.var 3) (.bin .Pow (.con (.int 10)) (.con (.int 18))))])), (.var 4)]))] }
def F__law_draw : FDef := { ps := ["stream", "count"], ns := ["stream", "count", "result"], body := [.ife (.cmp .Gt (.sub (.var 0) (.con (.int 0))) (.con (.int 0))) [.asg (.name 2) false (.bin .Mod (.sub (.var 0) (.con (.int 0))) (.var 1)), .setI (.var 0) (.con (.int 0)) (.bin .FloorDiv (.sub (.var 0) (.con (.int 0))) (.var 1)), .ret (some (.var 2))] [],
  .setI (.var 0) (.con (.int 1)) (.bin .Mod (.bin .Add (.bin .Mult (.sub (.var 0) (.con (.int 1))) (.con (.int 69621))) (.con (.int 7))) (.con (.int 2147483647))),
  .ret (some (.bin .Mod (.bin .FloorDiv (.bin .Mod (.bin .Mult (.sub (.var 0) (.con (.int 1))) (.sub (.var 0) (.con (.int 1)))) (.con (.int 2147483629))) (.con (.int 32))) (.var 1)))] }
def F__law_choose : FDef := { ps := ["stream", "items"], ns := ["stream", "items"], body := [.ret (some (.sub (.var 1) (.call "_law_draw" [(.var 0), (.call "len" [(.var 1)])])))] }
def F__law_max : FDef := { ps := ["heights"], ns := ["heights"], body := [.ret (some (.call "max" [(.bin .Add (.var 0) (.lst [(.con (.int 0))]))]))] }
def F__law_drawn : FDef := { ps := ["stream", "most", "height"], ns := ["stream", "most", "height", "rows", "columns", "pile", "limits", "row", "column", "side", "cell", "front", "way"], body := [.asg (.tup [3, 4]) false (.tup [(.bin .Add (.con (.int 1)) (.call "_law_draw" [(.var 0), (.var 1)])), (.bin .Add (.con (.int 1)) (.call "_law_draw" [(.var 0), (.var 1)]))]),
  .parO [5, 6] [true, true] [.dnew, .dnew],
  .forr (.name 7) (.range (.var 3)) [.forr (.name 8) (.range (.var 4)) [.ife (.cmp .Gt (.call "_law_draw" [(.var 0), (.con (.int 5))]) (.con (.int 0))) [.setI (.var 5) (.tup [(.var 7), (.var 8)]) (.call "_law_draw" [(.var 0), (.bin .Add (.var 2) (.con (.int 1)))])] []]],
  .asg (.name 9) true (.lc (.call "_law_max" [(.lc (.sub (.var 5) (.var 10)) (.name 10) (.val (.var 5)) (some (.cmp .Eq (.sub (.var 10) (.con (.int 0))) (.var 7))))]) (.name 7) (.range (.var 3)) none),
  .asg (.name 11) true (.lc (.call "_law_max" [(.lc (.sub (.var 5) (.var 10)) (.name 10) (.val (.var 5)) (some (.cmp .Eq (.sub (.var 10) (.con (.int 1))) (.var 8))))]) (.name 8) (.range (.var 4)) none),
  .forr (.name 10) (.val (.var 5)) [.asg (.name 12) false (.call "_law_draw" [(.var 0), (.con (.int 6))]), .ife (.or (.cmp .Eq (.var 12) (.con (.int 0))) (.cmp .Eq (.sub (.var 5) (.var 10)) (.con (.int 0)))) [.setI (.var 6) (.var 10) (.tup [(.call "_law_draw" [(.var 0), (.bin .Add (.sub (.var 5) (.var 10)) (.con (.int 1)))]), (.con .non)])] [], .ife (.cmp .Eq (.var 12) (.con (.int 1))) [.setI (.var 6) (.var 10) (.tup [(.call "_law_draw" [(.var 0), (.bin .Add (.sub (.var 5) (.var 10)) (.con (.int 1)))]), (.bin .Add (.sub (.var 5) (.var 10)) (.call "_law_draw" [(.var 0), (.con (.int 2))]))])] []],
  .ife (.cmp .Eq (.call "_law_draw" [(.var 0), (.con (.int 5))]) (.con (.int 0))) [.setI (.var 9) (.call "_law_draw" [(.var 0), (.var 3)]) (.call "_law_draw" [(.var 0), (.bin .Add (.var 2) (.con (.int 2)))])] [],
  .ife (.cmp .Eq (.call "_law_draw" [(.var 0), (.con (.int 9))]) (.con (.int 0))) [.setI (.var 11) (.call "_law_draw" [(.var 0), (.var 4)]) (.call "_law_draw" [(.var 0), (.bin .Add (.var 2) (.con (.int 2)))])] [],
  .ret (some (.lst [(.call "sorted" [(.var 5)]), (.var 9), (.var 11), (.var 6)]))] }
def F__law_made : FDef := { ps := ["parts"], ns := ["parts", "cells", "side", "front", "limits"], body := [.unp [1, 2, 3, 4] (.var 0),
  .ret (some (.callK "Task" [(.call "Plan" [(.call "len" [(.var 2)]), (.call "len" [(.var 3)]), (.var 1)]), (.call "Views" [(.var 2), (.var 3)])] ["bounds"] [(.var 4)]))] }
def F__law_low : FDef := { ps := ["parts", "cell"], ns := ["parts", "cell"], body := [.ret (some (.sub (.bm (.sub (.var 0) (.con (.int 3))) "get" [(.var 1), (.tup [(.con (.int 1)), (.con .non)])]) (.con (.int 0))))] }
def F__law_top : FDef := { ps := ["parts", "cell"], ns := ["parts", "cell", "upper", "heights"], body := [.asg (.name 2) false (.sub (.bm (.sub (.var 0) (.con (.int 3))) "get" [(.var 1), (.tup [(.con (.int 1)), (.con .non)])]) (.con (.int 1))),
  .asg (.name 3) false (.lst [(.sub (.sub (.var 0) (.con (.int 1))) (.sub (.var 1) (.con (.int 0)))), (.sub (.sub (.var 0) (.con (.int 2))) (.sub (.var 1) (.con (.int 1))))]),
  .ret (some (.ife (.cmp .Is (.var 2) (.con .non)) (.call "min" [(.var 3)]) (.call "min" [(.bin .Add (.var 3) (.lst [(.var 2)]))])))] }
def F__law_served : FDef := { ps := ["parts", "cell"], ns := ["parts", "cell", "top", "result"], body := [.parO [2, 3] [false, true] [(.call "_law_top" [(.var 0), (.var 1)]), (.lst [])],
  .ife (.cmp .Eq (.sub (.sub (.var 0) (.con (.int 1))) (.sub (.var 1) (.con (.int 0)))) (.var 2)) [.expr (.bm (.var 3) "append" [(.tup [(.con (.str "row")), (.sub (.var 1) (.con (.int 0)))])])] [],
  .ife (.cmp .Eq (.sub (.sub (.var 0) (.con (.int 2))) (.sub (.var 1) (.con (.int 1)))) (.var 2)) [.expr (.bm (.var 3) "append" [(.tup [(.con (.str "column")), (.sub (.var 1) (.con (.int 1)))])])] [],
  .ret (some (.settle (.var 3)))] }
def F__law_fits : FDef := { ps := ["parts", "pile"], ns := ["parts", "pile", "cells", "side", "front", "limits", "cell", "low", "upper", "rows", "row", "columns", "column"], body := [.unp [2, 3, 4, 5] (.var 0),
  .forr (.name 6) (.val (.var 2)) [.asg (.tup [7, 8]) false (.bm (.var 5) "get" [(.var 6), (.tup [(.con (.int 1)), (.con .non)])]), .ife (.or (.cmp .Lt (.sub (.var 1) (.var 6)) (.var 7)) (.and (.cmp .IsNot (.var 8) (.con .non)) (.cmp .Gt (.sub (.var 1) (.var 6)) (.var 8)))) [.ret (some (.con (.bl false)))] []],
  .asg (.name 9) false (.lc (.call "_law_max" [(.lc (.sub (.var 1) (.var 6)) (.name 6) (.val (.var 2)) (some (.cmp .Eq (.sub (.var 6) (.con (.int 0))) (.var 10))))]) (.name 10) (.range (.call "len" [(.var 3)])) none),
  .asg (.name 11) false (.lc (.call "_law_max" [(.lc (.sub (.var 1) (.var 6)) (.name 6) (.val (.var 2)) (some (.cmp .Eq (.sub (.var 6) (.con (.int 1))) (.var 12))))]) (.name 12) (.range (.call "len" [(.var 4)])) none),
  .ret (some (.and (.cmp .Eq (.var 9) (.var 3)) (.cmp .Eq (.var 11) (.var 4))))] }
def F_law : FDef := { ps := ["script"], ns := ["script", "k", "stream", "turn", "parts", "task", "cells", "tops", "cell", "piles", "changed", "pile", "before", "larger", "odd_ones", "height", "odd", "turned", "own"], body := [.forr (.name 1) (.range (.call "max" [(.con (.int 1)), (.call "min" [(.con (.int 8)), (.call "len" [(.var 0)])])])) [.asg (.name 2) true (.call "_law_stream" [(.var 0), (.var 1)]), .forr (.name 3) (.range (.con (.int 3))) [.asg (.name 4) false (.call "_law_drawn" [(.var 2), (.con (.int 4)), (.con (.int 3))]), .asg (.tup [5, 6]) false (.tup [(.call "_law_made" [(.var 4)]), (.sub (.var 4) (.con (.int 0)))]), .asg (.name 7) false (.call "dict" [(.lc (.tup [(.var 8), (.call "max" [(.con (.int 0)), (.call "_law_top" [(.var 4), (.var 8)])])]) (.name 8) (.val (.var 6)) none)]), .asg (.name 9) true (.lst [(.var 7), (.call "dict" [(.lc (.tup [(.var 8), (.call "_law_draw" [(.var 2), (.con (.int 5))])]) (.name 8) (.val (.var 6)) none)])]), .forr (.name 8) (.val (.var 6)) [.asg (.name 10) true (.call "dict" [(.var 7)]), .setI (.var 10) (.var 8) (.call "_law_draw" [(.var 2), (.con (.int 5))]), .expr (.bm (.var 9) "append" [(.var 10)])], .forr (.name 11) (.val (.var 9)) [.asg (.name 12) false (.call "repr" [(.var 11)]), .ife (.or (.cmp .NotEq (.call "fits" [(.var 5), (.var 11)]) (.call "_law_fits" [(.var 4), (.var 11)])) (.cmp .NotEq (.call "repr" [(.var 11)]) (.var 12))) [.ret (some (.con (.bl false)))] []], .asg (.name 13) true (.call "dict" [(.var 7)]), .setI (.var 13) (.tup [(.con (.int 40)), (.con (.int 40))]) (.con (.int 1)), .asg (.name 14) true (.lst [(.con .non), (.lst []), (.con (.str "pile")), (.con (.int 5)), (.var 13), (.call "sorted" [(.var 7)])]), .ife (.cmp .NotEq (.var 6) (.lst [])) [.expr (.bm (.var 14) "append" [(.call "dict" [(.lc (.tup [(.var 8), (.sub (.var 7) (.var 8))]) (.name 8) (.val (.slice (.var 6) (some (.con (.int 1))) none)) none)])]), .forr (.name 15) (.val (.lst [(.con .non), (.con (.bl true)), (.con (.str "1")), (.neg (.con (.int 1)))])) [.asg (.name 16) true (.call "dict" [(.var 7)]), .setI (.var 16) (.sub (.var 6) (.neg (.con (.int 1)))) (.var 15), .expr (.bm (.var 14) "append" [(.var 16)])]] [], .forr (.name 8) (.val (.slice (.lc (.var 8) (.name 8) (.val (.var 6)) (some (.cmp .Lt (.sub (.var 8) (.con (.int 0))) (.con (.int 2))))) none (some (.con (.int 1))))) [.asg (.name 17) false (.tup [(.cmp .Eq (.sub (.var 8) (.con (.int 0))) (.con (.int 1))), (.sub (.var 8) (.con (.int 1)))]), .expr (.bm (.var 14) "append" [(.call "dict" [(.lc (.tup [(.pick [(.var 18), (.var 17)] (.call "int" [(.cmp .Eq (.var 18) (.var 8))])), (.sub (.var 7) (.var 18))]) (.name 18) (.val (.var 6)) none)])])], .forr (.name 16) (.val (.var 14)) [.ife (.cmp .IsNot (.call "fits" [(.var 5), (.var 16)]) (.con (.bl false))) [.ret (some (.con (.bl false)))] []]]],
  .ret (some (.cmp .Is (.call "fits" [(.call "Task" [(.call "Plan" [(.con (.int 1)), (.con (.int 1)), (.lst [])]), (.call "Views" [(.lst [(.con (.int 0))]), (.lst [(.con (.int 0))])])]), .dnew]) (.con (.bl true))))] }
def C_Plan : CDef := { fields := ["row_count", "column_count", "own_cells", "places"], props := ["rows", "columns", "cells"], mu := false }
def N_Plan : ClsN := { name := "Plan", d := C_Plan, ms := (([("__init__", F_Plan_DinitD), ("is_place", F_Plan_is_place), ("rows", F_Plan_rows), ("columns", F_Plan_columns), ("cells", F_Plan_cells), ("__len__", F_Plan_DlenD), ("__eq__", F_Plan_DeqD), ("is_cell", F_Plan_is_cell), ("is_line", F_Plan_is_line), ("lines", F_Plan_lines), ("cells_of", F_Plan_cells_of)] : List (Str × FDef))) }
def C_Views : CDef := { fields := ["side", "front"], props := ["row_heights", "column_heights"], mu := false }
def N_Views : ClsN := { name := "Views", d := C_Views, ms := (([("__init__", F_Views_DinitD), ("row_heights", F_Views_row_heights), ("column_heights", F_Views_column_heights), ("__eq__", F_Views_DeqD), ("check_line", F_Views_check_line), ("height_of", F_Views_height_of)] : List (Str × FDef))) }
def C_Task : CDef := { fields := ["own_plan", "own_views", "limits", "tops"], props := ["plan", "views", "bounds"], mu := false }
def N_Task : ClsN := { name := "Task", d := C_Task, ms := (([("__init__", F_Task_DinitD), ("plan", F_Task_plan), ("views", F_Task_views), ("bounds", F_Task_bounds), ("__eq__", F_Task_DeqD), ("parts", F_Task_parts), ("least_limit", F_Task_least_limit), ("check_cell", F_Task_check_cell), ("bounds_of", F_Task_bounds_of), ("lower", F_Task_lower), ("top", F_Task_top)] : List (Str × FDef))) }
def X_CubeError : XDef := { fields := [], ups := ["ValueError", "Exception"] }
def X_InvalidPlan : XDef := { fields := [], ups := ["CubeError", "ValueError", "Exception"] }
def X_InvalidViews : XDef := { fields := [], ups := ["CubeError", "ValueError", "Exception"] }
def X_InvalidCell : XDef := { fields := [], ups := ["CubeError", "ValueError", "Exception"] }
def X_InvalidLine : XDef := { fields := [], ups := ["CubeError", "ValueError", "Exception"] }
def T : Tab where
  fns := (([("is_integer", F_is_integer), ("is_number", F_is_number), ("is_height", F_is_height), ("is_pair", F_is_pair), ("is_line_within", F_is_line_within), ("lines_through", F_lines_through), ("is_height_list", F_is_height_list), ("is_pile", F_is_pile), ("views_of", F_views_of), ("is_within", F_is_within), ("fits", F_fits), ("are_bounds", F_are_bounds), ("check_bounds", F_check_bounds), ("check_views", F_check_views), ("_law_stream", F__law_stream), ("_law_draw", F__law_draw), ("_law_choose", F__law_choose), ("_law_max", F__law_max), ("_law_drawn", F__law_drawn), ("_law_made", F__law_made), ("_law_low", F__law_low), ("_law_top", F__law_top), ("_law_served", F__law_served), ("_law_fits", F__law_fits), ("law", F_law)] : List (Str × FDef)))
  cls := [N_Plan, N_Views, N_Task]
  exs := (([("CubeError", X_CubeError), ("InvalidPlan", X_InvalidPlan), ("InvalidViews", X_InvalidViews), ("InvalidCell", X_InvalidCell), ("InvalidLine", X_InvalidLine)] : List (Str × XDef)))
  con := [("MAX_SIZE", .int 30), ("MAX_HEIGHT", .int 1000000000000000000000000000000), ("NO_BOUNDS", .tup [.int 1, .non])]
  free := ["isinstance", "int", "bool", "str", "list", "dict", "tuple", "len", "repr", "all", "any", "sorted", "range", "sum", "min", "max", "abs", "enumerate", "zip", "ValueError", "LookupError", "RuntimeError", "OverflowError", "print", "super", "reversed", "next", "iter"]
  kwd := ["Task"]
  kws := [("Task", 2, [], [.pos 0, .pos 1, .dft .non]), ("Task", 2, ["bounds"], [.pos 0, .pos 1, .kw 0])]
def E : Ev := ⟨T.prog, T.fn, 100000⟩
section
variable {n : Nat} {ρ : Env} {es : List M} {h : Cells}
theorem fn_is_integer : E.fn "" "is_integer" = some F_is_integer := by kernel_rfl
theorem is_is_integer : E.P.isFn "" "is_integer" = true := by kernel_rfl
theorem ev_is_integer : evalE E.P (E.c n) ρ (.call "is_integer" es) h = (evalWs E.P (E.c n) ρ es h).bind (hid (x := ⟨fun ws h => E.c n "" "is_integer" ws h⟩)) := evalE_fn is_is_integer
theorem fn_is_number : E.fn "" "is_number" = some F_is_number := by kernel_rfl
theorem is_is_number : E.P.isFn "" "is_number" = true := by kernel_rfl
theorem ev_is_number : evalE E.P (E.c n) ρ (.call "is_number" es) h = (evalWs E.P (E.c n) ρ es h).bind (hid (x := ⟨fun ws h => E.c n "" "is_number" ws h⟩)) := evalE_fn is_is_number
theorem fn_is_height : E.fn "" "is_height" = some F_is_height := by kernel_rfl
theorem is_is_height : E.P.isFn "" "is_height" = true := by kernel_rfl
theorem ev_is_height : evalE E.P (E.c n) ρ (.call "is_height" es) h = (evalWs E.P (E.c n) ρ es h).bind (hid (x := ⟨fun ws h => E.c n "" "is_height" ws h⟩)) := evalE_fn is_is_height
theorem fn_is_pair : E.fn "" "is_pair" = some F_is_pair := by kernel_rfl
theorem is_is_pair : E.P.isFn "" "is_pair" = true := by kernel_rfl
theorem ev_is_pair : evalE E.P (E.c n) ρ (.call "is_pair" es) h = (evalWs E.P (E.c n) ρ es h).bind (hid (x := ⟨fun ws h => E.c n "" "is_pair" ws h⟩)) := evalE_fn is_is_pair
theorem fn_Plan_DinitD : E.fn "Plan" "__init__" = some F_Plan_DinitD := by kernel_rfl
theorem is_Plan_DinitD : E.P.isFn "Plan" "__init__" = true := by kernel_rfl
theorem fn_Plan_is_place : E.fn "Plan" "is_place" = some F_Plan_is_place := by kernel_rfl
theorem is_Plan_is_place : E.P.isFn "Plan" "is_place" = true := by kernel_rfl
theorem im_Plan_is_place : isM E.P "Plan" "is_place" = true := by kernel_rfl
theorem fn_Plan_rows : E.fn "Plan" "rows" = some F_Plan_rows := by kernel_rfl
theorem is_Plan_rows : E.P.isFn "Plan" "rows" = true := by kernel_rfl
theorem po_Plan_rows : propOk E.P "Plan" "rows" = true := by kernel_rfl
theorem fn_Plan_columns : E.fn "Plan" "columns" = some F_Plan_columns := by kernel_rfl
theorem is_Plan_columns : E.P.isFn "Plan" "columns" = true := by kernel_rfl
theorem po_Plan_columns : propOk E.P "Plan" "columns" = true := by kernel_rfl
theorem fn_Plan_cells : E.fn "Plan" "cells" = some F_Plan_cells := by kernel_rfl
theorem is_Plan_cells : E.P.isFn "Plan" "cells" = true := by kernel_rfl
theorem po_Plan_cells : propOk E.P "Plan" "cells" = true := by kernel_rfl
theorem fn_Plan_DlenD : E.fn "Plan" "__len__" = some F_Plan_DlenD := by kernel_rfl
theorem is_Plan_DlenD : E.P.isFn "Plan" "__len__" = true := by kernel_rfl
theorem fn_Plan_DeqD : E.fn "Plan" "__eq__" = some F_Plan_DeqD := by kernel_rfl
theorem is_Plan_DeqD : E.P.isFn "Plan" "__eq__" = true := by kernel_rfl
theorem fn_Plan_is_cell : E.fn "Plan" "is_cell" = some F_Plan_is_cell := by kernel_rfl
theorem is_Plan_is_cell : E.P.isFn "Plan" "is_cell" = true := by kernel_rfl
theorem im_Plan_is_cell : isM E.P "Plan" "is_cell" = true := by kernel_rfl
theorem fn_Plan_is_line : E.fn "Plan" "is_line" = some F_Plan_is_line := by kernel_rfl
theorem is_Plan_is_line : E.P.isFn "Plan" "is_line" = true := by kernel_rfl
theorem im_Plan_is_line : isM E.P "Plan" "is_line" = true := by kernel_rfl
theorem fn_Plan_lines : E.fn "Plan" "lines" = some F_Plan_lines := by kernel_rfl
theorem is_Plan_lines : E.P.isFn "Plan" "lines" = true := by kernel_rfl
theorem im_Plan_lines : isM E.P "Plan" "lines" = true := by kernel_rfl
theorem fn_Plan_cells_of : E.fn "Plan" "cells_of" = some F_Plan_cells_of := by kernel_rfl
theorem is_Plan_cells_of : E.P.isFn "Plan" "cells_of" = true := by kernel_rfl
theorem im_Plan_cells_of : isM E.P "Plan" "cells_of" = true := by kernel_rfl
theorem fn_is_line_within : E.fn "" "is_line_within" = some F_is_line_within := by kernel_rfl
theorem is_is_line_within : E.P.isFn "" "is_line_within" = true := by kernel_rfl
theorem ev_is_line_within : evalE E.P (E.c n) ρ (.call "is_line_within" es) h = (evalWs E.P (E.c n) ρ es h).bind (hid (x := ⟨fun ws h => E.c n "" "is_line_within" ws h⟩)) := evalE_fn is_is_line_within
theorem fn_lines_through : E.fn "" "lines_through" = some F_lines_through := by kernel_rfl
theorem is_lines_through : E.P.isFn "" "lines_through" = true := by kernel_rfl
theorem ev_lines_through : evalE E.P (E.c n) ρ (.call "lines_through" es) h = (evalWs E.P (E.c n) ρ es h).bind (hid (x := ⟨fun ws h => E.c n "" "lines_through" ws h⟩)) := evalE_fn is_lines_through
theorem fn_is_height_list : E.fn "" "is_height_list" = some F_is_height_list := by kernel_rfl
theorem is_is_height_list : E.P.isFn "" "is_height_list" = true := by kernel_rfl
theorem ev_is_height_list : evalE E.P (E.c n) ρ (.call "is_height_list" es) h = (evalWs E.P (E.c n) ρ es h).bind (hid (x := ⟨fun ws h => E.c n "" "is_height_list" ws h⟩)) := evalE_fn is_is_height_list
theorem fn_Views_DinitD : E.fn "Views" "__init__" = some F_Views_DinitD := by kernel_rfl
theorem is_Views_DinitD : E.P.isFn "Views" "__init__" = true := by kernel_rfl
theorem fn_Views_row_heights : E.fn "Views" "row_heights" = some F_Views_row_heights := by kernel_rfl
theorem is_Views_row_heights : E.P.isFn "Views" "row_heights" = true := by kernel_rfl
theorem po_Views_row_heights : propOk E.P "Views" "row_heights" = true := by kernel_rfl
theorem fn_Views_column_heights : E.fn "Views" "column_heights" = some F_Views_column_heights := by kernel_rfl
theorem is_Views_column_heights : E.P.isFn "Views" "column_heights" = true := by kernel_rfl
theorem po_Views_column_heights : propOk E.P "Views" "column_heights" = true := by kernel_rfl
theorem fn_Views_DeqD : E.fn "Views" "__eq__" = some F_Views_DeqD := by kernel_rfl
theorem is_Views_DeqD : E.P.isFn "Views" "__eq__" = true := by kernel_rfl
theorem fn_Views_check_line : E.fn "Views" "check_line" = some F_Views_check_line := by kernel_rfl
theorem is_Views_check_line : E.P.isFn "Views" "check_line" = true := by kernel_rfl
theorem im_Views_check_line : isM E.P "Views" "check_line" = true := by kernel_rfl
theorem fn_Views_height_of : E.fn "Views" "height_of" = some F_Views_height_of := by kernel_rfl
theorem is_Views_height_of : E.P.isFn "Views" "height_of" = true := by kernel_rfl
theorem im_Views_height_of : isM E.P "Views" "height_of" = true := by kernel_rfl
theorem fn_is_pile : E.fn "" "is_pile" = some F_is_pile := by kernel_rfl
theorem is_is_pile : E.P.isFn "" "is_pile" = true := by kernel_rfl
theorem ev_is_pile : evalE E.P (E.c n) ρ (.call "is_pile" es) h = (evalWs E.P (E.c n) ρ es h).bind (hid (x := ⟨fun ws h => E.c n "" "is_pile" ws h⟩)) := evalE_fn is_is_pile
theorem fn_views_of : E.fn "" "views_of" = some F_views_of := by kernel_rfl
theorem is_views_of : E.P.isFn "" "views_of" = true := by kernel_rfl
theorem ev_views_of : evalE E.P (E.c n) ρ (.call "views_of" es) h = (evalWs E.P (E.c n) ρ es h).bind (hid (x := ⟨fun ws h => E.c n "" "views_of" ws h⟩)) := evalE_fn is_views_of
theorem fn_is_within : E.fn "" "is_within" = some F_is_within := by kernel_rfl
theorem is_is_within : E.P.isFn "" "is_within" = true := by kernel_rfl
theorem ev_is_within : evalE E.P (E.c n) ρ (.call "is_within" es) h = (evalWs E.P (E.c n) ρ es h).bind (hid (x := ⟨fun ws h => E.c n "" "is_within" ws h⟩)) := evalE_fn is_is_within
theorem fn_fits : E.fn "" "fits" = some F_fits := by kernel_rfl
theorem is_fits : E.P.isFn "" "fits" = true := by kernel_rfl
theorem ev_fits : evalE E.P (E.c n) ρ (.call "fits" es) h = (evalWs E.P (E.c n) ρ es h).bind (hid (x := ⟨fun ws h => E.c n "" "fits" ws h⟩)) := evalE_fn is_fits
theorem fn_are_bounds : E.fn "" "are_bounds" = some F_are_bounds := by kernel_rfl
theorem is_are_bounds : E.P.isFn "" "are_bounds" = true := by kernel_rfl
theorem ev_are_bounds : evalE E.P (E.c n) ρ (.call "are_bounds" es) h = (evalWs E.P (E.c n) ρ es h).bind (hid (x := ⟨fun ws h => E.c n "" "are_bounds" ws h⟩)) := evalE_fn is_are_bounds
theorem fn_check_bounds : E.fn "" "check_bounds" = some F_check_bounds := by kernel_rfl
theorem is_check_bounds : E.P.isFn "" "check_bounds" = true := by kernel_rfl
theorem ev_check_bounds : evalE E.P (E.c n) ρ (.call "check_bounds" es) h = (evalWs E.P (E.c n) ρ es h).bind (hid (x := ⟨fun ws h => E.c n "" "check_bounds" ws h⟩)) := evalE_fn is_check_bounds
theorem fn_check_views : E.fn "" "check_views" = some F_check_views := by kernel_rfl
theorem is_check_views : E.P.isFn "" "check_views" = true := by kernel_rfl
theorem ev_check_views : evalE E.P (E.c n) ρ (.call "check_views" es) h = (evalWs E.P (E.c n) ρ es h).bind (hid (x := ⟨fun ws h => E.c n "" "check_views" ws h⟩)) := evalE_fn is_check_views
theorem fn_Task_DinitD : E.fn "Task" "__init__" = some F_Task_DinitD := by kernel_rfl
theorem is_Task_DinitD : E.P.isFn "Task" "__init__" = false := by kernel_rfl
theorem fn_Task_plan : E.fn "Task" "plan" = some F_Task_plan := by kernel_rfl
theorem is_Task_plan : E.P.isFn "Task" "plan" = true := by kernel_rfl
theorem po_Task_plan : propOk E.P "Task" "plan" = true := by kernel_rfl
theorem fn_Task_views : E.fn "Task" "views" = some F_Task_views := by kernel_rfl
theorem is_Task_views : E.P.isFn "Task" "views" = true := by kernel_rfl
theorem po_Task_views : propOk E.P "Task" "views" = true := by kernel_rfl
theorem fn_Task_bounds : E.fn "Task" "bounds" = some F_Task_bounds := by kernel_rfl
theorem is_Task_bounds : E.P.isFn "Task" "bounds" = true := by kernel_rfl
theorem po_Task_bounds : propOk E.P "Task" "bounds" = true := by kernel_rfl
theorem fn_Task_DeqD : E.fn "Task" "__eq__" = some F_Task_DeqD := by kernel_rfl
theorem is_Task_DeqD : E.P.isFn "Task" "__eq__" = true := by kernel_rfl
theorem fn_Task_parts : E.fn "Task" "parts" = some F_Task_parts := by kernel_rfl
theorem is_Task_parts : E.P.isFn "Task" "parts" = true := by kernel_rfl
theorem im_Task_parts : isM E.P "Task" "parts" = true := by kernel_rfl
theorem fn_Task_least_limit : E.fn "Task" "least_limit" = some F_Task_least_limit := by kernel_rfl
theorem is_Task_least_limit : E.P.isFn "Task" "least_limit" = true := by kernel_rfl
theorem im_Task_least_limit : isM E.P "Task" "least_limit" = true := by kernel_rfl
theorem fn_Task_check_cell : E.fn "Task" "check_cell" = some F_Task_check_cell := by kernel_rfl
theorem is_Task_check_cell : E.P.isFn "Task" "check_cell" = true := by kernel_rfl
theorem im_Task_check_cell : isM E.P "Task" "check_cell" = true := by kernel_rfl
theorem fn_Task_bounds_of : E.fn "Task" "bounds_of" = some F_Task_bounds_of := by kernel_rfl
theorem is_Task_bounds_of : E.P.isFn "Task" "bounds_of" = true := by kernel_rfl
theorem im_Task_bounds_of : isM E.P "Task" "bounds_of" = true := by kernel_rfl
theorem fn_Task_lower : E.fn "Task" "lower" = some F_Task_lower := by kernel_rfl
theorem is_Task_lower : E.P.isFn "Task" "lower" = true := by kernel_rfl
theorem im_Task_lower : isM E.P "Task" "lower" = true := by kernel_rfl
theorem fn_Task_top : E.fn "Task" "top" = some F_Task_top := by kernel_rfl
theorem is_Task_top : E.P.isFn "Task" "top" = true := by kernel_rfl
theorem im_Task_top : isM E.P "Task" "top" = true := by kernel_rfl
theorem fn__law_stream : E.fn "" "_law_stream" = some F__law_stream := by kernel_rfl
theorem is__law_stream : E.P.isFn "" "_law_stream" = true := by kernel_rfl
theorem ev__law_stream : evalE E.P (E.c n) ρ (.call "_law_stream" es) h = (evalWs E.P (E.c n) ρ es h).bind (hid (x := ⟨fun ws h => E.c n "" "_law_stream" ws h⟩)) := evalE_fn is__law_stream
theorem fn__law_draw : E.fn "" "_law_draw" = some F__law_draw := by kernel_rfl
theorem is__law_draw : E.P.isFn "" "_law_draw" = true := by kernel_rfl
theorem ev__law_draw : evalE E.P (E.c n) ρ (.call "_law_draw" es) h = (evalWs E.P (E.c n) ρ es h).bind (hid (x := ⟨fun ws h => E.c n "" "_law_draw" ws h⟩)) := evalE_fn is__law_draw
theorem fn__law_choose : E.fn "" "_law_choose" = some F__law_choose := by kernel_rfl
theorem is__law_choose : E.P.isFn "" "_law_choose" = true := by kernel_rfl
theorem ev__law_choose : evalE E.P (E.c n) ρ (.call "_law_choose" es) h = (evalWs E.P (E.c n) ρ es h).bind (hid (x := ⟨fun ws h => E.c n "" "_law_choose" ws h⟩)) := evalE_fn is__law_choose
theorem fn__law_max : E.fn "" "_law_max" = some F__law_max := by kernel_rfl
theorem is__law_max : E.P.isFn "" "_law_max" = true := by kernel_rfl
theorem ev__law_max : evalE E.P (E.c n) ρ (.call "_law_max" es) h = (evalWs E.P (E.c n) ρ es h).bind (hid (x := ⟨fun ws h => E.c n "" "_law_max" ws h⟩)) := evalE_fn is__law_max
theorem fn__law_drawn : E.fn "" "_law_drawn" = some F__law_drawn := by kernel_rfl
theorem is__law_drawn : E.P.isFn "" "_law_drawn" = true := by kernel_rfl
theorem ev__law_drawn : evalE E.P (E.c n) ρ (.call "_law_drawn" es) h = (evalWs E.P (E.c n) ρ es h).bind (hid (x := ⟨fun ws h => E.c n "" "_law_drawn" ws h⟩)) := evalE_fn is__law_drawn
theorem fn__law_made : E.fn "" "_law_made" = some F__law_made := by kernel_rfl
theorem is__law_made : E.P.isFn "" "_law_made" = true := by kernel_rfl
theorem ev__law_made : evalE E.P (E.c n) ρ (.call "_law_made" es) h = (evalWs E.P (E.c n) ρ es h).bind (hid (x := ⟨fun ws h => E.c n "" "_law_made" ws h⟩)) := evalE_fn is__law_made
theorem fn__law_low : E.fn "" "_law_low" = some F__law_low := by kernel_rfl
theorem is__law_low : E.P.isFn "" "_law_low" = true := by kernel_rfl
theorem ev__law_low : evalE E.P (E.c n) ρ (.call "_law_low" es) h = (evalWs E.P (E.c n) ρ es h).bind (hid (x := ⟨fun ws h => E.c n "" "_law_low" ws h⟩)) := evalE_fn is__law_low
theorem fn__law_top : E.fn "" "_law_top" = some F__law_top := by kernel_rfl
theorem is__law_top : E.P.isFn "" "_law_top" = true := by kernel_rfl
theorem ev__law_top : evalE E.P (E.c n) ρ (.call "_law_top" es) h = (evalWs E.P (E.c n) ρ es h).bind (hid (x := ⟨fun ws h => E.c n "" "_law_top" ws h⟩)) := evalE_fn is__law_top
theorem fn__law_served : E.fn "" "_law_served" = some F__law_served := by kernel_rfl
theorem is__law_served : E.P.isFn "" "_law_served" = true := by kernel_rfl
theorem ev__law_served : evalE E.P (E.c n) ρ (.call "_law_served" es) h = (evalWs E.P (E.c n) ρ es h).bind (hid (x := ⟨fun ws h => E.c n "" "_law_served" ws h⟩)) := evalE_fn is__law_served
theorem fn__law_fits : E.fn "" "_law_fits" = some F__law_fits := by kernel_rfl
theorem is__law_fits : E.P.isFn "" "_law_fits" = true := by kernel_rfl
theorem ev__law_fits : evalE E.P (E.c n) ρ (.call "_law_fits" es) h = (evalWs E.P (E.c n) ρ es h).bind (hid (x := ⟨fun ws h => E.c n "" "_law_fits" ws h⟩)) := evalE_fn is__law_fits
theorem fn_law : E.fn "" "law" = some F_law := by kernel_rfl
theorem is_law : E.P.isFn "" "law" = true := by kernel_rfl
theorem ev_law : evalE E.P (E.c n) ρ (.call "law" es) h = (evalWs E.P (E.c n) ρ es h).bind (hid (x := ⟨fun ws h => E.c n "" "law" ws h⟩)) := evalE_fn is_law
theorem ev_len : evalE E.P (E.c n) ρ (.call "len" es) h = (evalWs E.P (E.c n) ρ es h).bind (hid (x := ⟨fun ws h => blM E.P (E.c n) .len ws h⟩)) := evalE_bl (by kernel_rfl) (by kernel_rfl) (by kernel_rfl) (by kernel_rfl)
theorem ev_int : evalE E.P (E.c n) ρ (.call "int" es) h = (evalWs E.P (E.c n) ρ es h).bind (hid (x := ⟨fun ws h => blM E.P (E.c n) .int ws h⟩)) := evalE_bl (by kernel_rfl) (by kernel_rfl) (by kernel_rfl) (by kernel_rfl)
theorem ev_abs : evalE E.P (E.c n) ρ (.call "abs" es) h = (evalWs E.P (E.c n) ρ es h).bind (hid (x := ⟨fun ws h => blM E.P (E.c n) .abs ws h⟩)) := evalE_bl (by kernel_rfl) (by kernel_rfl) (by kernel_rfl) (by kernel_rfl)
theorem ev_min : evalE E.P (E.c n) ρ (.call "min" es) h = (evalWs E.P (E.c n) ρ es h).bind (hid (x := ⟨fun ws h => blM E.P (E.c n) .min ws h⟩)) := evalE_bl (by kernel_rfl) (by kernel_rfl) (by kernel_rfl) (by kernel_rfl)
theorem ev_max : evalE E.P (E.c n) ρ (.call "max" es) h = (evalWs E.P (E.c n) ρ es h).bind (hid (x := ⟨fun ws h => blM E.P (E.c n) .max ws h⟩)) := evalE_bl (by kernel_rfl) (by kernel_rfl) (by kernel_rfl) (by kernel_rfl)
theorem ev_sum : evalE E.P (E.c n) ρ (.call "sum" es) h = (evalWs E.P (E.c n) ρ es h).bind (hid (x := ⟨fun ws h => blM E.P (E.c n) .sum ws h⟩)) := evalE_bl (by kernel_rfl) (by kernel_rfl) (by kernel_rfl) (by kernel_rfl)
theorem ev_all : evalE E.P (E.c n) ρ (.call "all" es) h = (evalWs E.P (E.c n) ρ es h).bind (hid (x := ⟨fun ws h => blM E.P (E.c n) .all ws h⟩)) := evalE_bl (by kernel_rfl) (by kernel_rfl) (by kernel_rfl) (by kernel_rfl)
theorem ev_any : evalE E.P (E.c n) ρ (.call "any" es) h = (evalWs E.P (E.c n) ρ es h).bind (hid (x := ⟨fun ws h => blM E.P (E.c n) .any ws h⟩)) := evalE_bl (by kernel_rfl) (by kernel_rfl) (by kernel_rfl) (by kernel_rfl)
theorem ev_sorted : evalE E.P (E.c n) ρ (.call "sorted" es) h = (evalWs E.P (E.c n) ρ es h).bind (hid (x := ⟨fun ws h => blM E.P (E.c n) .sorted ws h⟩)) := evalE_bl (by kernel_rfl) (by kernel_rfl) (by kernel_rfl) (by kernel_rfl)
theorem ev_list : evalE E.P (E.c n) ρ (.call "list" es) h = (evalWs E.P (E.c n) ρ es h).bind (hid (x := ⟨fun ws h => blM E.P (E.c n) .list ws h⟩)) := evalE_bl (by kernel_rfl) (by kernel_rfl) (by kernel_rfl) (by kernel_rfl)
theorem ev_dict : evalE E.P (E.c n) ρ (.call "dict" es) h = (evalWs E.P (E.c n) ρ es h).bind (hid (x := ⟨fun ws h => blM E.P (E.c n) .dict ws h⟩)) := evalE_bl (by kernel_rfl) (by kernel_rfl) (by kernel_rfl) (by kernel_rfl)
theorem ev_repr : evalE E.P (E.c n) ρ (.call "repr" es) h = (evalWs E.P (E.c n) ρ es h).bind (hid (x := ⟨fun ws h => blM E.P (E.c n) .repr ws h⟩)) := evalE_bl (by kernel_rfl) (by kernel_rfl) (by kernel_rfl) (by kernel_rfl)
theorem kwe_max {e0 v0 : M} : evalE E.P (E.c n) ρ (.callK "max" [e0] ["default"] [v0]) h = (evalWs E.P (E.c n) ρ [e0] h).bind (hid (x := ⟨fun ws h => (evalWs E.P (E.c n) ρ [v0] h).bind (hid (x := ⟨fun zs h => maxDM ws zs h⟩))⟩)) := e_maxD (by kernel_rfl) (by kernel_rfl) (by kernel_rfl)
theorem cls_Plan : E.P.cls "Plan" = some C_Plan := by kernel_rfl
theorem fo_Plan_row_count : fieldOk E.P "Plan" "row_count" = true := by kernel_rfl
theorem fo_Plan_column_count : fieldOk E.P "Plan" "column_count" = true := by kernel_rfl
theorem fo_Plan_own_cells : fieldOk E.P "Plan" "own_cells" = true := by kernel_rfl
theorem fo_Plan_places : fieldOk E.P "Plan" "places" = true := by kernel_rfl
theorem ev_Plan : evalE E.P (E.c n) ρ (.call "Plan" es) h = (evalWs E.P (E.c n) ρ es h).bind (hid (x := ⟨fun ws h => callM E.P (E.c n) "Plan" ws h⟩)) := evalE_cl (c := C_Plan) (by kernel_rfl) (by kernel_rfl) (by kernel_rfl)
theorem cls_Views : E.P.cls "Views" = some C_Views := by kernel_rfl
theorem fo_Views_side : fieldOk E.P "Views" "side" = true := by kernel_rfl
theorem fo_Views_front : fieldOk E.P "Views" "front" = true := by kernel_rfl
theorem ev_Views : evalE E.P (E.c n) ρ (.call "Views" es) h = (evalWs E.P (E.c n) ρ es h).bind (hid (x := ⟨fun ws h => callM E.P (E.c n) "Views" ws h⟩)) := evalE_cl (c := C_Views) (by kernel_rfl) (by kernel_rfl) (by kernel_rfl)
theorem cls_Task : E.P.cls "Task" = some C_Task := by kernel_rfl
theorem fo_Task_own_plan : fieldOk E.P "Task" "own_plan" = true := by kernel_rfl
theorem fo_Task_own_views : fieldOk E.P "Task" "own_views" = true := by kernel_rfl
theorem fo_Task_limits : fieldOk E.P "Task" "limits" = true := by kernel_rfl
theorem fo_Task_tops : fieldOk E.P "Task" "tops" = true := by kernel_rfl
theorem exc_CubeError : E.P.exc "CubeError" = some X_CubeError := by kernel_rfl
theorem ra_CubeError : raiseOk E.P "CubeError" = true := by kernel_rfl
theorem exc_InvalidPlan : E.P.exc "InvalidPlan" = some X_InvalidPlan := by kernel_rfl
theorem ra_InvalidPlan : raiseOk E.P "InvalidPlan" = true := by kernel_rfl
theorem exc_InvalidViews : E.P.exc "InvalidViews" = some X_InvalidViews := by kernel_rfl
theorem ra_InvalidViews : raiseOk E.P "InvalidViews" = true := by kernel_rfl
theorem exc_InvalidCell : E.P.exc "InvalidCell" = some X_InvalidCell := by kernel_rfl
theorem ra_InvalidCell : raiseOk E.P "InvalidCell" = true := by kernel_rfl
theorem exc_InvalidLine : E.P.exc "InvalidLine" = some X_InvalidLine := by kernel_rfl
theorem ra_InvalidLine : raiseOk E.P "InvalidLine" = true := by kernel_rfl
theorem cat_CubeError_CubeError : catches E.P "CubeError" "CubeError" = true := by kernel_rfl
theorem cat_CubeError_InvalidPlan : catches E.P "CubeError" "InvalidPlan" = true := by kernel_rfl
theorem cat_CubeError_InvalidViews : catches E.P "CubeError" "InvalidViews" = true := by kernel_rfl
theorem cat_CubeError_InvalidCell : catches E.P "CubeError" "InvalidCell" = true := by kernel_rfl
theorem cat_CubeError_InvalidLine : catches E.P "CubeError" "InvalidLine" = true := by kernel_rfl
theorem cat_InvalidPlan_CubeError : catches E.P "InvalidPlan" "CubeError" = false := by kernel_rfl
theorem cat_InvalidPlan_InvalidPlan : catches E.P "InvalidPlan" "InvalidPlan" = true := by kernel_rfl
theorem cat_InvalidPlan_InvalidViews : catches E.P "InvalidPlan" "InvalidViews" = false := by kernel_rfl
theorem cat_InvalidPlan_InvalidCell : catches E.P "InvalidPlan" "InvalidCell" = false := by kernel_rfl
theorem cat_InvalidPlan_InvalidLine : catches E.P "InvalidPlan" "InvalidLine" = false := by kernel_rfl
theorem cat_InvalidViews_CubeError : catches E.P "InvalidViews" "CubeError" = false := by kernel_rfl
theorem cat_InvalidViews_InvalidPlan : catches E.P "InvalidViews" "InvalidPlan" = false := by kernel_rfl
theorem cat_InvalidViews_InvalidViews : catches E.P "InvalidViews" "InvalidViews" = true := by kernel_rfl
theorem cat_InvalidViews_InvalidCell : catches E.P "InvalidViews" "InvalidCell" = false := by kernel_rfl
theorem cat_InvalidViews_InvalidLine : catches E.P "InvalidViews" "InvalidLine" = false := by kernel_rfl
theorem cat_InvalidCell_CubeError : catches E.P "InvalidCell" "CubeError" = false := by kernel_rfl
theorem cat_InvalidCell_InvalidPlan : catches E.P "InvalidCell" "InvalidPlan" = false := by kernel_rfl
theorem cat_InvalidCell_InvalidViews : catches E.P "InvalidCell" "InvalidViews" = false := by kernel_rfl
theorem cat_InvalidCell_InvalidCell : catches E.P "InvalidCell" "InvalidCell" = true := by kernel_rfl
theorem cat_InvalidCell_InvalidLine : catches E.P "InvalidCell" "InvalidLine" = false := by kernel_rfl
theorem cat_InvalidLine_CubeError : catches E.P "InvalidLine" "CubeError" = false := by kernel_rfl
theorem cat_InvalidLine_InvalidPlan : catches E.P "InvalidLine" "InvalidPlan" = false := by kernel_rfl
theorem cat_InvalidLine_InvalidViews : catches E.P "InvalidLine" "InvalidViews" = false := by kernel_rfl
theorem cat_InvalidLine_InvalidCell : catches E.P "InvalidLine" "InvalidCell" = false := by kernel_rfl
theorem cat_InvalidLine_InvalidLine : catches E.P "InvalidLine" "InvalidLine" = true := by kernel_rfl
theorem con_MAX_SIZE : E.P.con "MAX_SIZE" = some (.int 30) := by kernel_rfl
theorem con_MAX_HEIGHT : E.P.con "MAX_HEIGHT" = some (.int 1000000000000000000000000000000) := by kernel_rfl
theorem con_NO_BOUNDS : E.P.con "NO_BOUNDS" = some (.tup [.int 1, .non]) := by kernel_rfl
theorem fr_int : E.P.free "int" = true := by kernel_rfl
theorem fr_bool : E.P.free "bool" = true := by kernel_rfl
theorem fr_str : E.P.free "str" = true := by kernel_rfl
theorem fr_list : E.P.free "list" = true := by kernel_rfl
theorem fr_dict : E.P.free "dict" = true := by kernel_rfl
theorem fr_tuple : E.P.free "tuple" = true := by kernel_rfl
theorem fr_range : E.P.free "range" = true := by kernel_rfl
theorem fr_enumerate : E.P.free "enumerate" = true := by kernel_rfl
theorem ty_Plan : tyOk E.P (.own "Plan") = true := by kernel_rfl
theorem ty_Views : tyOk E.P (.own "Views") = true := by kernel_rfl
theorem ty_Task : tyOk E.P (.own "Task") = true := by kernel_rfl
theorem ty_int : tyOk E.P .int = true := by kernel_rfl
theorem ty_bool : tyOk E.P .bool = true := by kernel_rfl
theorem ty_str : tyOk E.P .str = true := by kernel_rfl
theorem ty_list : tyOk E.P .list = true := by kernel_rfl
theorem ty_tuple : tyOk E.P .tuple = true := by kernel_rfl
theorem ty_dict : tyOk E.P .dict = true := by kernel_rfl
theorem kwe_Task_0 {e0 e1 : M} : evalE E.P (E.c n) ρ (.call "Task" [e0, e1]) h = (evalWs E.P (E.c n) ρ [e0, e1] h).bind (hid (x := ⟨fun ws h => callM E.P (E.c n) "Task" ws h⟩)) := by
  unfold evalE
  rw [if_pos (by kernel_rfl)]
  rfl
theorem kwm_Task_0 {a0 a1 : W} : callM E.P (E.c n) "Task" [a0, a1] h = makeK E.P (E.c n) "Task" [a0, a1, .d .non] h := by kernel_rfl
theorem kwe_Task_1 {e0 e1 v0 : M} : evalE E.P (E.c n) ρ (.callK "Task" [e0, e1] ["bounds"] [v0]) h = (evalWs E.P (E.c n) ρ [e0, e1] h).bind (hid (x := ⟨fun ws h => (evalWs E.P (E.c n) ρ [v0] h).bind (hid (x := ⟨fun zs h => kwM E.P (E.c n) "Task" [.pos 0, .pos 1, .kw 0] ws zs h⟩))⟩)) := e_callK (by kernel_rfl) (by kernel_rfl)
theorem kwm_Task_1 {a0 a1 z0 : W} : kwM E.P (E.c n) "Task" [.pos 0, .pos 1, .kw 0] [a0, a1] [z0] h = makeK E.P (E.c n) "Task" [a0, a1, z0] h := (rfl)
theorem run_is_integer {w0 : W} : E.c (n + 1) "" "is_integer" [w0] h = fin false h.length (evalSs E.P (E.c n) E.wf F_is_integer.body [some w0] h) := Ev.c_run fn_is_integer rfl
theorem run_is_number {w0 w1 w2 : W} : E.c (n + 1) "" "is_number" [w0, w1, w2] h = fin false h.length (evalSs E.P (E.c n) E.wf F_is_number.body [some w0, some w1, some w2] h) := Ev.c_run fn_is_number rfl
theorem run_is_height {w0 : W} : E.c (n + 1) "" "is_height" [w0] h = fin false h.length (evalSs E.P (E.c n) E.wf F_is_height.body [some w0] h) := Ev.c_run fn_is_height rfl
theorem run_is_pair {w0 : W} : E.c (n + 1) "" "is_pair" [w0] h = fin false h.length (evalSs E.P (E.c n) E.wf F_is_pair.body [some w0] h) := Ev.c_run fn_is_pair rfl
theorem run_Plan_DinitD {w0 w1 w2 w3 : W} : E.c (n + 1) "Plan" "__init__" [w0, w1, w2, w3] h = fin false h.length (evalSs E.P (E.c n) E.wf F_Plan_DinitD.body [some w0, some w1, some w2, some w3, none] h) := Ev.c_run fn_Plan_DinitD rfl
theorem run_Plan_is_place {w0 w1 : W} : E.c (n + 1) "Plan" "is_place" [w0, w1] h = fin false h.length (evalSs E.P (E.c n) E.wf F_Plan_is_place.body [some w0, some w1, none, none] h) := Ev.c_run fn_Plan_is_place rfl
theorem run_Plan_rows {w0 : W} : E.c (n + 1) "Plan" "rows" [w0] h = fin false h.length (evalSs E.P (E.c n) E.wf F_Plan_rows.body [some w0] h) := Ev.c_run fn_Plan_rows rfl
theorem run_Plan_columns {w0 : W} : E.c (n + 1) "Plan" "columns" [w0] h = fin false h.length (evalSs E.P (E.c n) E.wf F_Plan_columns.body [some w0] h) := Ev.c_run fn_Plan_columns rfl
theorem run_Plan_cells {w0 : W} : E.c (n + 1) "Plan" "cells" [w0] h = fin false h.length (evalSs E.P (E.c n) E.wf F_Plan_cells.body [some w0] h) := Ev.c_run fn_Plan_cells rfl
theorem run_Plan_DlenD {w0 : W} : E.c (n + 1) "Plan" "__len__" [w0] h = fin false h.length (evalSs E.P (E.c n) E.wf F_Plan_DlenD.body [some w0] h) := Ev.c_run fn_Plan_DlenD rfl
theorem run_Plan_DeqD {w0 w1 : W} : E.c (n + 1) "Plan" "__eq__" [w0, w1] h = fin false h.length (evalSs E.P (E.c n) E.wf F_Plan_DeqD.body [some w0, some w1] h) := Ev.c_run fn_Plan_DeqD rfl
theorem run_Plan_is_cell {w0 w1 : W} : E.c (n + 1) "Plan" "is_cell" [w0, w1] h = fin false h.length (evalSs E.P (E.c n) E.wf F_Plan_is_cell.body [some w0, some w1] h) := Ev.c_run fn_Plan_is_cell rfl
theorem run_Plan_is_line {w0 w1 : W} : E.c (n + 1) "Plan" "is_line" [w0, w1] h = fin false h.length (evalSs E.P (E.c n) E.wf F_Plan_is_line.body [some w0, some w1] h) := Ev.c_run fn_Plan_is_line rfl
theorem run_Plan_lines {w0 : W} : E.c (n + 1) "Plan" "lines" [w0] h = fin false h.length (evalSs E.P (E.c n) E.wf F_Plan_lines.body [some w0, none, none] h) := Ev.c_run fn_Plan_lines rfl
theorem run_Plan_cells_of {w0 w1 : W} : E.c (n + 1) "Plan" "cells_of" [w0, w1] h = fin false h.length (evalSs E.P (E.c n) E.wf F_Plan_cells_of.body [some w0, some w1, none, none, none] h) := Ev.c_run fn_Plan_cells_of rfl
theorem run_is_line_within {w0 w1 w2 : W} : E.c (n + 1) "" "is_line_within" [w0, w1, w2] h = fin false h.length (evalSs E.P (E.c n) E.wf F_is_line_within.body [some w0, some w1, some w2] h) := Ev.c_run fn_is_line_within rfl
theorem run_lines_through {w0 : W} : E.c (n + 1) "" "lines_through" [w0] h = fin false h.length (evalSs E.P (E.c n) E.wf F_lines_through.body [some w0] h) := Ev.c_run fn_lines_through rfl
theorem run_is_height_list {w0 : W} : E.c (n + 1) "" "is_height_list" [w0] h = fin false h.length (evalSs E.P (E.c n) E.wf F_is_height_list.body [some w0, none] h) := Ev.c_run fn_is_height_list rfl
theorem run_Views_DinitD {w0 w1 w2 : W} : E.c (n + 1) "Views" "__init__" [w0, w1, w2] h = fin false h.length (evalSs E.P (E.c n) E.wf F_Views_DinitD.body [some w0, some w1, some w2] h) := Ev.c_run fn_Views_DinitD rfl
theorem run_Views_row_heights {w0 : W} : E.c (n + 1) "Views" "row_heights" [w0] h = fin false h.length (evalSs E.P (E.c n) E.wf F_Views_row_heights.body [some w0] h) := Ev.c_run fn_Views_row_heights rfl
theorem run_Views_column_heights {w0 : W} : E.c (n + 1) "Views" "column_heights" [w0] h = fin false h.length (evalSs E.P (E.c n) E.wf F_Views_column_heights.body [some w0] h) := Ev.c_run fn_Views_column_heights rfl
theorem run_Views_DeqD {w0 w1 : W} : E.c (n + 1) "Views" "__eq__" [w0, w1] h = fin false h.length (evalSs E.P (E.c n) E.wf F_Views_DeqD.body [some w0, some w1] h) := Ev.c_run fn_Views_DeqD rfl
theorem run_Views_check_line {w0 w1 : W} : E.c (n + 1) "Views" "check_line" [w0, w1] h = fin false h.length (evalSs E.P (E.c n) E.wf F_Views_check_line.body [some w0, some w1] h) := Ev.c_run fn_Views_check_line rfl
theorem run_Views_height_of {w0 w1 : W} : E.c (n + 1) "Views" "height_of" [w0, w1] h = fin false h.length (evalSs E.P (E.c n) E.wf F_Views_height_of.body [some w0, some w1] h) := Ev.c_run fn_Views_height_of rfl
theorem run_is_pile {w0 w1 : W} : E.c (n + 1) "" "is_pile" [w0, w1] h = fin false h.length (evalSs E.P (E.c n) E.wf F_is_pile.body [some w0, some w1, none, none] h) := Ev.c_run fn_is_pile rfl
theorem run_views_of {w0 w1 : W} : E.c (n + 1) "" "views_of" [w0, w1] h = fin false h.length (evalSs E.P (E.c n) E.wf F_views_of.body [some w0, some w1, none, none, none, none, none] h) := Ev.c_run fn_views_of rfl
theorem run_is_within {w0 w1 w2 : W} : E.c (n + 1) "" "is_within" [w0, w1, w2] h = fin false h.length (evalSs E.P (E.c n) E.wf F_is_within.body [some w0, some w1, some w2, none, none] h) := Ev.c_run fn_is_within rfl
theorem run_fits {w0 w1 : W} : E.c (n + 1) "" "fits" [w0, w1] h = fin false h.length (evalSs E.P (E.c n) E.wf F_fits.body [some w0, some w1, none, none] h) := Ev.c_run fn_fits rfl
theorem run_are_bounds {w0 : W} : E.c (n + 1) "" "are_bounds" [w0] h = fin false h.length (evalSs E.P (E.c n) E.wf F_are_bounds.body [some w0] h) := Ev.c_run fn_are_bounds rfl
theorem run_check_bounds {w0 w1 : W} : E.c (n + 1) "" "check_bounds" [w0, w1] h = fin false h.length (evalSs E.P (E.c n) E.wf F_check_bounds.body [some w0, some w1, none, none] h) := Ev.c_run fn_check_bounds rfl
theorem run_check_views {w0 w1 : W} : E.c (n + 1) "" "check_views" [w0, w1] h = fin false h.length (evalSs E.P (E.c n) E.wf F_check_views.body [some w0, some w1] h) := Ev.c_run fn_check_views rfl
theorem run_Task_DinitD {w0 w1 w2 w3 : W} : E.c (n + 1) "Task" "__init__" [w0, w1, w2, w3] h = fin false h.length (evalSs E.P (E.c n) E.wf F_Task_DinitD.body [some w0, some w1, some w2, some w3, none] h) := Ev.c_run fn_Task_DinitD rfl
theorem run_Task_plan {w0 : W} : E.c (n + 1) "Task" "plan" [w0] h = fin false h.length (evalSs E.P (E.c n) E.wf F_Task_plan.body [some w0] h) := Ev.c_run fn_Task_plan rfl
theorem run_Task_views {w0 : W} : E.c (n + 1) "Task" "views" [w0] h = fin false h.length (evalSs E.P (E.c n) E.wf F_Task_views.body [some w0] h) := Ev.c_run fn_Task_views rfl
theorem run_Task_bounds {w0 : W} : E.c (n + 1) "Task" "bounds" [w0] h = fin false h.length (evalSs E.P (E.c n) E.wf F_Task_bounds.body [some w0] h) := Ev.c_run fn_Task_bounds rfl
theorem run_Task_DeqD {w0 w1 : W} : E.c (n + 1) "Task" "__eq__" [w0, w1] h = fin false h.length (evalSs E.P (E.c n) E.wf F_Task_DeqD.body [some w0, some w1] h) := Ev.c_run fn_Task_DeqD rfl
theorem run_Task_parts {w0 : W} : E.c (n + 1) "Task" "parts" [w0] h = fin false h.length (evalSs E.P (E.c n) E.wf F_Task_parts.body [some w0] h) := Ev.c_run fn_Task_parts rfl
theorem run_Task_least_limit {w0 w1 : W} : E.c (n + 1) "Task" "least_limit" [w0, w1] h = fin false h.length (evalSs E.P (E.c n) E.wf F_Task_least_limit.body [some w0, some w1, none, none, none] h) := Ev.c_run fn_Task_least_limit rfl
theorem run_Task_check_cell {w0 w1 : W} : E.c (n + 1) "Task" "check_cell" [w0, w1] h = fin false h.length (evalSs E.P (E.c n) E.wf F_Task_check_cell.body [some w0, some w1] h) := Ev.c_run fn_Task_check_cell rfl
theorem run_Task_bounds_of {w0 w1 : W} : E.c (n + 1) "Task" "bounds_of" [w0, w1] h = fin false h.length (evalSs E.P (E.c n) E.wf F_Task_bounds_of.body [some w0, some w1] h) := Ev.c_run fn_Task_bounds_of rfl
theorem run_Task_lower {w0 w1 : W} : E.c (n + 1) "Task" "lower" [w0, w1] h = fin false h.length (evalSs E.P (E.c n) E.wf F_Task_lower.body [some w0, some w1] h) := Ev.c_run fn_Task_lower rfl
theorem run_Task_top {w0 w1 : W} : E.c (n + 1) "Task" "top" [w0, w1] h = fin false h.length (evalSs E.P (E.c n) E.wf F_Task_top.body [some w0, some w1] h) := Ev.c_run fn_Task_top rfl
theorem run__law_stream {w0 w1 : W} : E.c (n + 1) "" "_law_stream" [w0, w1] h = fin false h.length (evalSs E.P (E.c n) E.wf F__law_stream.body [some w0, some w1, none, none, none] h) := Ev.c_run fn__law_stream rfl
theorem run__law_draw {w0 w1 : W} : E.c (n + 1) "" "_law_draw" [w0, w1] h = fin false h.length (evalSs E.P (E.c n) E.wf F__law_draw.body [some w0, some w1, none] h) := Ev.c_run fn__law_draw rfl
theorem run__law_choose {w0 w1 : W} : E.c (n + 1) "" "_law_choose" [w0, w1] h = fin false h.length (evalSs E.P (E.c n) E.wf F__law_choose.body [some w0, some w1] h) := Ev.c_run fn__law_choose rfl
theorem run__law_max {w0 : W} : E.c (n + 1) "" "_law_max" [w0] h = fin false h.length (evalSs E.P (E.c n) E.wf F__law_max.body [some w0] h) := Ev.c_run fn__law_max rfl
theorem run__law_drawn {w0 w1 w2 : W} : E.c (n + 1) "" "_law_drawn" [w0, w1, w2] h = fin false h.length (evalSs E.P (E.c n) E.wf F__law_drawn.body [some w0, some w1, some w2, none, none, none, none, none, none, none, none, none, none] h) := Ev.c_run fn__law_drawn rfl
theorem run__law_made {w0 : W} : E.c (n + 1) "" "_law_made" [w0] h = fin false h.length (evalSs E.P (E.c n) E.wf F__law_made.body [some w0, none, none, none, none] h) := Ev.c_run fn__law_made rfl
theorem run__law_low {w0 w1 : W} : E.c (n + 1) "" "_law_low" [w0, w1] h = fin false h.length (evalSs E.P (E.c n) E.wf F__law_low.body [some w0, some w1] h) := Ev.c_run fn__law_low rfl
theorem run__law_top {w0 w1 : W} : E.c (n + 1) "" "_law_top" [w0, w1] h = fin false h.length (evalSs E.P (E.c n) E.wf F__law_top.body [some w0, some w1, none, none] h) := Ev.c_run fn__law_top rfl
theorem run__law_served {w0 w1 : W} : E.c (n + 1) "" "_law_served" [w0, w1] h = fin false h.length (evalSs E.P (E.c n) E.wf F__law_served.body [some w0, some w1, none, none] h) := Ev.c_run fn__law_served rfl
theorem run__law_fits {w0 w1 : W} : E.c (n + 1) "" "_law_fits" [w0, w1] h = fin false h.length (evalSs E.P (E.c n) E.wf F__law_fits.body [some w0, some w1, none, none, none, none, none, none, none, none, none, none, none] h) := Ev.c_run fn__law_fits rfl
theorem run_law {w0 : W} : E.c (n + 1) "" "law" [w0] h = fin false h.length (evalSs E.P (E.c n) E.wf F_law.body [some w0, none, none, none, none, none, none, none, none, none, none, none, none, none, none, none, none, none, none] h) := Ev.c_run fn_law rfl
end
end Pe.Pv
local macro_rules | `(tactic| simp! [$ls,*]) => `(tactic| simp only [Pe.Pw.hid_app, Pe.Pw.e_var, Pe.Pw.e_con, Pe.Pw.e_glob, Pe.Pw.e_bin, Pe.Pw.e_neg, Pe.Pw.e_cmp, Pe.Pw.e_chain, Pe.Pw.e_not, Pe.Pw.e_and, Pe.Pw.e_or, Pe.Pw.e_ife, Pe.Pw.e_tup, Pe.Pw.e_lst, Pe.Pw.e_dnew, Pe.Pw.e_isi, Pe.Pw.e_meth, Pe.Pw.e_bm, Pe.Pw.e_attr, Pe.Pw.e_sub, Pe.Pw.e_settle, Pe.Pw.e_pick, Pe.Pw.e_dcR, Pe.Pw.e_slice, Pe.Pw.e_lc0, Pe.Pw.e_lc1, Pe.Pw.e_dc0, Pe.Pw.e_dc1, Pe.Pw.ds_nil, Pe.Pw.ds_cons, Pe.Pw.ws_nil, Pe.Pw.ws_cons, Pe.Pw.o_none, Pe.Pw.o_some, Pe.Pw.i_val, Pe.Pw.i_range, Pe.Pw.i_range2, Pe.Pw.i_items, Pe.Pw.i_values, Pe.Pw.i_enum, Pe.Pw.s_asg1, Pe.Pw.s_asg2, Pe.Pw.s_unp, Pe.Pw.s_parO, Pe.Pw.os_nil, Pe.Pw.os_cons, Pe.Pw.e_lstS, Pe.Pw.s_setA, Pe.Pw.s_setI, Pe.Pw.s_augN, Pe.Pw.s_augI, Pe.Pw.s_expr, Pe.Pw.s_ret0, Pe.Pw.s_ret1, Pe.Pw.s_ife, Pe.Pw.s_for, Pe.Pw.s_brk, Pe.Pw.s_cont, Pe.Pw.s_pass, Pe.Pw.s_raise0, Pe.Pw.ss_nil, Pe.Pw.ss_cons, ↓Pe.Pw.bind_ok, ↓Pe.Pw.bind_exc, ↓Pe.Pw.bind_bad, ↓Pe.Pw.bind_bind, ↓Pe.Pw.bind_ite, ↓Pe.Pw.thenS_ok, ↓Pe.Pw.thenS_exc, ↓Pe.Pw.thenS_bad, ↓Pe.Pw.thenS_bind, ↓Pe.Pw.thenS_ite, ↓Pe.Pw.next_thenS, ↓Pe.Pw.next_nx, ↓Pe.Pw.next_rt, ↓Pe.Pw.next_bk, ↓Pe.Pw.next_ct, ↓Pe.Pw.next_exc, ↓Pe.Pw.next_bad, ↓Pe.Pw.next_next, ↓Pe.Pw.next_ite, Pe.Pw.fin_rt, Pe.Pw.fin_nx, Pe.Pw.fin_exc, Pe.Pw.fin_ite, Pe.Pw.finish_d, Pe.Pw.finish_lst, Pe.Pw.finish_dic, Pe.Pw.toW_w, Pe.Pw.toW_lst, Pe.Pw.toW_dic, Pe.Pw.toD_d, Pe.Pw.toD_lst, Pe.Pw.toD_dic, Pe.Pw.toB_ok, Pe.Pw.toD_exc, Pe.Pw.toW_exc, Pe.Pw.toB_exc, Pe.Pw.toD_ite, Pe.Pw.toW_ite, Pe.Pw.toB_ite, Pe.Pw.toD_bind, Pe.Pw.toW_bind, Pe.Pw.toB_bind, Pe.Pw.calm_ok, Pe.Pw.norm_d, Pe.Pw.add_ii, Pe.Pw.sub_ii, Pe.Pw.mul_ii, Pe.Pw.mod_ii, Pe.Pw.fdiv_ii, Pe.Pw.pow_ii, Pe.Pw.add_ll, Pe.Pw.neg_i, Pe.Pw.items_l, Pe.Pw.items_t, Pe.Pw.items_d, Pe.Pw.range_i, Pe.Pw.range_ii, Pe.Pw.bindTo_1, Pe.Pw.bindS_1, Pe.Pw.bindTo_2, Pe.Pw.bindS_2, Pe.Pw.asg_d, Pe.Pw.asg_r, Pe.Pw.asg_ol, Pe.Pw.asg_nl, Pe.Pw.asg_nd, Pe.Pw.bvo_d, Pe.Pw.bvo_r, Pe.Pw.bvo_ol, Pe.Pw.bvo_nl, Pe.Pw.bvo_nd, Pe.Pw.star_l, Pe.Pw.star_t, Pe.Pw.lstS_ok, Pe.Pw.unp_l, Pe.Pw.unp_t, Pe.Pw.unpL_nil, Pe.Pw.unpL_cons, Pe.Pw.bw_nil, Pe.Pw.bw_cons, Pe.Pw.bvs_d, Pe.Pw.bvs_r, Pe.Pw.bvs_ol, Pe.Pw.bvs_nl, Pe.Pw.bvs_nd, Pe.Pw.setA_w, Pe.Pw.setAL_ins, Pe.Pw.lim_d, Pe.Pw.attr_r, Pe.Pw.attrL_ins, Pe.Pw.attr_d, Pe.Pw.attr_p, Pe.Pw.ownM_d, Pe.Pw.ownM_r, Pe.Pw.ownL_ins, Pe.alook, Pe.aput, List.mem_cons, List.not_mem_nil, or_false, or_true, false_or, true_or, Nat.reduceLT, Nat.reduceLeDiff, Pe.Pw.tup_ok, Pe.Pw.lst_ok, Pe.Pw.len_l, Pe.Pw.len_t, Pe.Pw.len_d, Pe.Pw.int_b, Pe.Pw.int_i, Pe.Pw.min_ii, Pe.Pw.max_ii, Pe.Pw.list_l, Pe.Pw.list_t, Pe.Pw.lt_ii, Pe.Pw.le_ii, Pe.Pw.gt_ii, Pe.Pw.ge_ii, Pe.Pw.is_n, Pe.Pw.isnt_n, Pe.Pw.is_b, Pe.Pw.isnt_b, Pe.Pw.ne_any, Pe.Pw.eq_any, Pe.Pw.in_any, Pe.Pw.chain_i, Pe.Pw.eq_ii, Pe.Pw.eq_ss, Pe.Pw.eq_si, Pe.Pw.eq_ns, Pe.Pw.eq_is, Pe.Pw.sub_t0, Pe.Pw.sub_t1, Pe.Pw.isi_ok, Pe.Pw.isi_nl, Pe.Pw.tyd_non, Pe.Pw.tyd_bl, Pe.Pw.tyd_int, Pe.Pw.tyd_str, Pe.Pw.tyd_tup, Pe.Pw.tyd_lst, Pe.Pw.tyd_dic, Pe.cmpI, Pe.Pw.take_len, Pe.Pw.take_same, Pe.Pw.take_new, Pe.Pw.le_sz, Pe.Pw.sorted_kc, Pe.Pw.norm_r, Pe.Pw.normL_lst, Pe.Pw.normL_dic, Pe.Pw.normL_ins, Pe.Pw.normL_gone, Pe.Pw.toD_r, Pe.Pw.toDL_lst, Pe.Pw.toDL_dic, Pe.Pw.sub_r, Pe.Pw.pick_ok, Pe.Pw.pick_0, Pe.Pw.pick_1, Pe.Pw.pick_2, Pe.Pw.settle_d, Pe.Pw.settle_n, Pe.Pw.settle_r, Pe.Pw.setl_lst, Pe.Pw.setl_dic, Pe.Pw.setl_ins, Pe.Pw.setl_gone, Pe.Pw.subL_lst, Pe.Pw.subL_dic, Pe.Pw.sub_l0, Pe.Pw.sub_l1, Pe.Pw.sub_p0, Pe.Pw.sub_p1, Pe.Pw.put_r, Pe.Pw.putL_l0, Pe.Pw.putL_l1, Pe.Pw.eq_rd, Pe.Pw.eqL_lst, Pe.Pw.eqL_dic, Pe.Pw.tmp_w, Pe.Pw.tmpN_w, Pe.Pw.tmp_lst, Pe.Pw.tmp_dic, Pe.Pw.tmpN_n, Pe.Pw.cutV_none, Pe.Pw.cutV_some, Pe.Pw.lod_r, Pe.Pw.lod_l, Pe.Pw.lod_d, Pe.Pw.lodL_lst, Pe.Pw.lodL_dic, Pe.Pw.bh_app, Pe.Pw.bh_ext, Pe.Pw.bh_clr, Pe.Pw.bh_pop, Pe.Pw.bh_get, Pe.Pw.bm_app, Pe.Pw.bm_clr, Pe.Pw.clrL_l, Pe.Pw.clrL_d, Pe.Pw.s_try, Pe.Pw.try_rt, Pe.Pw.try_nx, Pe.Pw.try_exc, Pe.Pw.try_ite, Pe.Pw.hs_nil, Pe.Pw.hs_cons, Pe.Pw.hsOk_nil, Pe.Pw.hsOk_cons, Option.isSome_some, Bool.and_self, and_self, and_true, true_and, Pe.Pw.turn_nx, Pe.Pw.turn_ct, Pe.Pw.turn_ite, Pe.Pw.keep_nil, Pe.Pw.keep_cons, Pe.Pw.wkeep_d, Pe.Pw.wkeep_n, Pe.Pw.wkeep_lt, Pe.Pw.gl_new, Pe.Pw.norm_new, Pe.Pw.set_new, List.take_zero, List.take_succ_cons, Nat.reduceEqDiff, Int.reduceLT, Int.reduceLE, Int.reduceAdd, Int.reduceNeg, Int.reduceSub, Int.reduceMul, Pe.Pw.Wp_ok, List.getElem?_cons_zero, List.getElem?_cons_succ, List.set_cons_zero, List.set_cons_succ, List.length_cons, List.length_nil, List.cons_append, List.nil_append, List.append_nil, Nat.reduceAdd, Nat.reduceSub, Pe.Pw.strEq, Pe.Pw.strBeq, String.reduceEq, String.reduceBEq, if_true, if_false, Bool.false_eq_true, Bool.not_true, Bool.not_false, Bool.not_not, reduceIte, reduceCtorEq, Pe.Pv.ev_is_integer, Pe.Pv.ev_is_number, Pe.Pv.ev_is_height, Pe.Pv.ev_is_pair, Pe.Pv.is_Plan_DinitD, Pe.Pv.im_Plan_is_place, Pe.Pv.po_Plan_rows, Pe.Pv.po_Plan_columns, Pe.Pv.po_Plan_cells, Pe.Pv.is_Plan_DlenD, Pe.Pv.is_Plan_DeqD, Pe.Pv.im_Plan_is_cell, Pe.Pv.im_Plan_is_line, Pe.Pv.im_Plan_lines, Pe.Pv.im_Plan_cells_of, Pe.Pv.ev_is_line_within, Pe.Pv.ev_lines_through, Pe.Pv.ev_is_height_list, Pe.Pv.is_Views_DinitD, Pe.Pv.po_Views_row_heights, Pe.Pv.po_Views_column_heights, Pe.Pv.is_Views_DeqD, Pe.Pv.im_Views_check_line, Pe.Pv.im_Views_height_of, Pe.Pv.ev_is_pile, Pe.Pv.ev_views_of, Pe.Pv.ev_is_within, Pe.Pv.ev_fits, Pe.Pv.ev_are_bounds, Pe.Pv.ev_check_bounds, Pe.Pv.ev_check_views, Pe.Pv.is_Task_DinitD, Pe.Pv.po_Task_plan, Pe.Pv.po_Task_views, Pe.Pv.po_Task_bounds, Pe.Pv.is_Task_DeqD, Pe.Pv.im_Task_parts, Pe.Pv.im_Task_least_limit, Pe.Pv.im_Task_check_cell, Pe.Pv.im_Task_bounds_of, Pe.Pv.im_Task_lower, Pe.Pv.im_Task_top, Pe.Pv.ev__law_stream, Pe.Pv.ev__law_draw, Pe.Pv.ev__law_choose, Pe.Pv.ev__law_max, Pe.Pv.ev__law_drawn, Pe.Pv.ev__law_made, Pe.Pv.ev__law_low, Pe.Pv.ev__law_top, Pe.Pv.ev__law_served, Pe.Pv.ev__law_fits, Pe.Pv.ev_law, Pe.Pv.ev_len, Pe.Pv.ev_int, Pe.Pv.ev_abs, Pe.Pv.ev_min, Pe.Pv.ev_max, Pe.Pv.ev_sum, Pe.Pv.ev_all, Pe.Pv.ev_any, Pe.Pv.ev_sorted, Pe.Pv.ev_list, Pe.Pv.ev_dict, Pe.Pv.ev_repr, Pe.Pv.kwe_max, Pe.Pv.cls_Plan, Pe.Pv.fo_Plan_row_count, Pe.Pv.fo_Plan_column_count, Pe.Pv.fo_Plan_own_cells, Pe.Pv.fo_Plan_places, Pe.Pv.ev_Plan, Pe.Pv.cls_Views, Pe.Pv.fo_Views_side, Pe.Pv.fo_Views_front, Pe.Pv.ev_Views, Pe.Pv.cls_Task, Pe.Pv.fo_Task_own_plan, Pe.Pv.fo_Task_own_views, Pe.Pv.fo_Task_limits, Pe.Pv.fo_Task_tops, Pe.Pv.exc_CubeError, Pe.Pv.ra_CubeError, Pe.Pv.exc_InvalidPlan, Pe.Pv.ra_InvalidPlan, Pe.Pv.exc_InvalidViews, Pe.Pv.ra_InvalidViews, Pe.Pv.exc_InvalidCell, Pe.Pv.ra_InvalidCell, Pe.Pv.exc_InvalidLine, Pe.Pv.ra_InvalidLine, Pe.Pv.cat_CubeError_CubeError, Pe.Pv.cat_CubeError_InvalidPlan, Pe.Pv.cat_CubeError_InvalidViews, Pe.Pv.cat_CubeError_InvalidCell, Pe.Pv.cat_CubeError_InvalidLine, Pe.Pv.cat_InvalidPlan_CubeError, Pe.Pv.cat_InvalidPlan_InvalidPlan, Pe.Pv.cat_InvalidPlan_InvalidViews, Pe.Pv.cat_InvalidPlan_InvalidCell, Pe.Pv.cat_InvalidPlan_InvalidLine, Pe.Pv.cat_InvalidViews_CubeError, Pe.Pv.cat_InvalidViews_InvalidPlan, Pe.Pv.cat_InvalidViews_InvalidViews, Pe.Pv.cat_InvalidViews_InvalidCell, Pe.Pv.cat_InvalidViews_InvalidLine, Pe.Pv.cat_InvalidCell_CubeError, Pe.Pv.cat_InvalidCell_InvalidPlan, Pe.Pv.cat_InvalidCell_InvalidViews, Pe.Pv.cat_InvalidCell_InvalidCell, Pe.Pv.cat_InvalidCell_InvalidLine, Pe.Pv.cat_InvalidLine_CubeError, Pe.Pv.cat_InvalidLine_InvalidPlan, Pe.Pv.cat_InvalidLine_InvalidViews, Pe.Pv.cat_InvalidLine_InvalidCell, Pe.Pv.cat_InvalidLine_InvalidLine, Pe.Pv.con_MAX_SIZE, Pe.Pv.con_MAX_HEIGHT, Pe.Pv.con_NO_BOUNDS, Pe.Pv.fr_int, Pe.Pv.fr_bool, Pe.Pv.fr_str, Pe.Pv.fr_list, Pe.Pv.fr_dict, Pe.Pv.fr_tuple, Pe.Pv.fr_range, Pe.Pv.fr_enumerate, Pe.Pv.ty_Plan, Pe.Pv.ty_Views, Pe.Pv.ty_Task, Pe.Pv.ty_int, Pe.Pv.ty_bool, Pe.Pv.ty_str, Pe.Pv.ty_list, Pe.Pv.ty_tuple, Pe.Pv.ty_dict, Pe.Pv.kwe_Task_0, Pe.Pv.kwm_Task_0, Pe.Pv.kwe_Task_1, Pe.Pv.kwm_Task_1, Pe.Pv.C_Plan, Pe.Pv.C_Views, Pe.Pv.C_Task, Pe.Pv.X_CubeError, Pe.Pv.X_InvalidPlan, Pe.Pv.X_InvalidViews, Pe.Pv.X_InvalidCell, Pe.Pv.X_InvalidLine, $ls,*])
set_option maxHeartbeats 4000000
namespace Pe.Pv
open PySem Pw
section
variable {n : Nat} {h : Cells} {x : D} {lo hi : Int}
def isInteger : D → Bool
  | .int _ => true
  | _ => false
def isNumber (d : D) (lo hi : Int) : Bool := match d with
  | .int i => decide (lo ≤ i) && decide (i ≤ hi)
  | _ => false
def isPair : D → Bool
  | .tup [_, _] => true
  | _ => false
theorem sp_is_integer (q : x.tyd E.P = true) : E.c (n + 1) "" "is_integer" [.d x] h = .ok (.w (.d (.bl (isInteger x)))) h := by
  rw [run_is_integer]
  simp! [F_is_integer, q]
  cases x <;> rfl
theorem sp_is_number (q : x.tyd E.P = true) : E.c (n + 2) "" "is_number" [.d x, .d (.int lo), .d (.int hi)] h = .ok (.w (.d (.bl (isNumber x lo hi)))) h := by
  rw [run_is_number]
  simp! [F_is_number, sp_is_integer, q]
  cases x <;> simp! [isInteger, isNumber]
  rename_i i
  by_cases e : lo ≤ i <;> simp! [e, decide_true, decide_false, Bool.true_and, Bool.false_and]
theorem sp_is_pair (q : x.tyd E.P = true) : E.c (n + 1) "" "is_pair" [.d x] h = .ok (.w (.d (.bl (isPair x)))) h := by
  rw [run_is_pair]
  simp! [F_is_pair, q]
  cases x <;> simp! [isPair, isiD]
  rename_i xs
  match xs with
  | [] => rfl
  | [_] => rfl
  | [_, _] => rfl
  | _ :: _ :: _ :: r =>
    have e : ¬ (((r.length + 1 + 1 + 1 : Nat) : Int) = 2) := by omega
    simp! [e, decide_false]
/-! ### plans -/
def planD (r c : Int) (cs : List D) (ps : List (D × D)) : D := .ins "Plan" [("row_count", .int r), ("column_count", .int c), ("own_cells", .lst cs), ("places", .dic ps)]
variable {r c : Int} {cs : List D} {ps : List (D × D)} {w : W}
theorem pl_rc : attrM E.P (E.c n) (.d (planD r c cs ps)) "row_count" h = .ok (.w (.d (.int r))) h := (rfl)
theorem pl_cc : attrM E.P (E.c n) (.d (planD r c cs ps)) "column_count" h = .ok (.w (.d (.int c))) h := (rfl)
theorem pl_oc : attrM E.P (E.c n) (.d (planD r c cs ps)) "own_cells" h = .ok (.w (.d (.lst cs))) h := (rfl)
theorem pl_pl : attrM E.P (E.c n) (.d (planD r c cs ps)) "places" h = .ok (.w (.d (.dic ps))) h := (rfl)
theorem pl_tyd : (planD r c cs ps).tyd E.P = true := (rfl)
def placeOf (r c : Int) : D → Bool
  | .tup [a, b] => isNumber a 0 (r - 1) && isNumber b 0 (c - 1)
  | _ => false
def tyd2 (P : Prog) : D → Bool
  | .tup [a, b] => a.tyd P && b.tyd P
  | x => x.tyd P
theorem tyd2_tyd {P : Prog} {x : D} (q : tyd2 P x = true) : x.tyd P = true := by
  cases x <;> first | rfl | exact q
theorem sp_is_place (hw : W.norm h w = w) (h1 : ∀ n, attrM E.P (E.c n) w "row_count" h = .ok (.w (.d (.int r))) h) (h2 : ∀ n, attrM E.P (E.c n) w "column_count" h = .ok (.w (.d (.int c))) h) (q : tyd2 E.P x = true) :
    E.c (n + 3) "Plan" "is_place" [w, .d x] h = .ok (.w (.d (.bl (placeOf r c x)))) h := by
  rw [run_Plan_is_place]
  simp! [F_Plan_is_place, sp_is_pair, tyd2_tyd q]
  by_cases e : isPair x = true
  · match x, e, q with
    | .tup [a, b], _, q =>
      have q := Bool.and_eq_true_iff.mp q
      simp! [isPair, h1, h2, hw, sp_is_number, q.1, q.2, placeOf]
      by_cases e : isNumber a 0 (r - 1) = true <;> simp! [e, Bool.true_and, Bool.false_and]
  · have e' : isPair x = false := by simpa using e
    have e2 : placeOf r c x = false := by
      unfold placeOf
      split
      · exact absurd rfl e
      · rfl
    simp! [e', e2]
def iniC (r c : Int) (cs : List Cell2) : Ob := .ins "Plan" [("row_count", .d (.int r)), ("column_count", .d (.int c)), ("own_cells", .d (.lst ((cellsOf cs).map pD))), ("places", .d (.dic (kc (.bl true) (cellsOf cs))))]
theorem asBools_one : ∀ {l : List Cell2}, asBools (l.map fun _ => D.bl true) = some (l.map fun _ => true)
  | [] => rfl
  | x :: r => by rw [List.map_cons, asBools, asBools_one]; rfl
def okC (r c : Int) (cs : List Cell2) : Prop := ∀ p ∈ cs, (0 ≤ p.1 ∧ p.1 < r) ∧ 0 ≤ p.2 ∧ p.2 < c
theorem place_ok {cs : List Cell2} (q : okC r c cs) {p : Cell2} (hp : p ∈ cs) : placeOf r c (pD p) = true := by
  obtain ⟨⟨a1, a2⟩, a3, a4⟩ := q p hp
  simp [placeOf, pD, isNumber]
  omega
theorem sp_Plan_init {cs : List Cell2} (hr : 1 ≤ r ∧ r ≤ 30) (hc : 1 ≤ c ∧ c ≤ 30) (hl : cs.length ≤ sizeLine) (hcs : okC r c cs) :
    E.c (n + 4) "Plan" "__init__" [.r h.length, .d (.int r), .d (.int c), .d (.lst (cs.map pD))] (h ++ [⟨.ins "Plan" [], false⟩]) = .ok (.w (.d .non)) (h ++ [⟨iniC r c cs, false⟩]) := by
  rw [run_Plan_DinitD]
  have a1 : isNumber (.int r) 1 30 = true := by simp [isNumber]; omega
  have a2 : isNumber (.int c) 1 30 = true := by simp [isNumber]; omega
  simp! [F_Plan_DinitD, sp_is_number, a1, a2, isiD, gl_new, norm_new, set_new]
  rw [lcGo_mapT pD (fun _ => .bl true) cs hl (fun p hp => ?_)]
  rotate_left
  · simp! [norm_new, gl_new]
    rw [sp_is_place (r := r) (c := c) norm_new (fun n => by simp! [gl_new]) (fun n => by simp! [gl_new]) rfl]
    simp! [place_ok hcs hp]
  simp! [all_l asBools_one, all_one, norm_new, gl_new, set_new]
  rw [dcGo_kc0 (.bl true) hl (fun p hp => by simp! [norm_new])]
  have e2 : (cellsOf cs).length ≤ sizeLine := Nat.le_trans (cellsOf_len cs) hl
  simp! [sorted_kc, norm_new, gl_new, set_new]
  rw [show sortC (dedup cs) = cellsOf cs from rfl, dcGo_kc0 (.bl true) e2 (fun p hp => by simp! [norm_new])]
  simp! [norm_new, gl_new, set_new, fin_new, dedup_cellsOf]
  rfl
def planC (r c : Int) (cs : List Cell2) : D := planD r c ((cellsOf cs).map pD) (kc (.bl true) (cellsOf cs))
theorem toW_iniC {cs : List Cell2} : (Out.ok (.new (iniC r c cs)) h).toW = .ok (.d (planC r c cs)) h := (rfl)
theorem asg_iniC {cs : List Cell2} {ρ : Env} {j : Nat} : asgM false (.new (iniC r c cs)) h j ρ = .nx (ρ.set j (some (.d (planC r c cs)))) h := (rfl)
theorem sp_Plan {cs : List Cell2} (hr : 1 ≤ r ∧ r ≤ 30) (hc : 1 ≤ c ∧ c ≤ 30) (hl : cs.length ≤ sizeLine) (hcs : okC r c cs) :
    callM E.P (E.c (n + 4)) "Plan" [.d (.int r), .d (.int c), .d (.lst (cs.map pD))] h = .ok (.new (iniC r c cs)) h := by
  rw [callM_new (c := C_Plan) (by kernel_rfl) cls_Plan is_Plan_DinitD rfl, sp_Plan_init hr hc hl hcs]
  exact newM_ok
theorem sp_Plan_rows : E.c (n + 1) "Plan" "rows" [.d (planD r c cs ps)] h = .ok (.w (.d (.int r))) h := by
  rw [run_Plan_rows]; simp! [F_Plan_rows, pl_rc]
theorem sp_Plan_columns : E.c (n + 1) "Plan" "columns" [.d (planD r c cs ps)] h = .ok (.w (.d (.int c))) h := by
  rw [run_Plan_columns]; simp! [F_Plan_columns, pl_cc]
theorem sp_Plan_cells : E.c (n + 1) "Plan" "cells" [.d (planD r c cs ps)] h = .ok (.new (.lst cs)) h := by
  rw [run_Plan_cells]; simp! [F_Plan_cells, pl_oc]
theorem pp_cells : attrM E.P (E.c n) (.d (planD r c cs ps)) "cells" h = (E.c n "Plan" "cells" [.d (planD r c cs ps)] h).calm := attr_p po_Plan_cells
theorem pp_rows : attrM E.P (E.c n) (.d (planD r c cs ps)) "rows" h = (E.c n "Plan" "rows" [.d (planD r c cs ps)] h).calm := attr_p po_Plan_rows
theorem pp_columns : attrM E.P (E.c n) (.d (planD r c cs ps)) "columns" h = (E.c n "Plan" "columns" [.d (planD r c cs ps)] h).calm := attr_p po_Plan_columns
def isLine (r c : Int) : D → Bool
  | .tup [.str s, k] => if s = "row" then isNumber k 0 (r - 1) else decide (s = "column") && isNumber k 0 (c - 1)
  | _ => false
theorem sp_is_line_within (q : tyd2 E.P x = true) : E.c (n + 3) "" "is_line_within" [.d x, .d (.int r), .d (.int c)] h = .ok (.w (.d (.bl (isLine r c x)))) h := by
  rw [run_is_line_within]
  simp! [F_is_line_within, sp_is_pair, tyd2_tyd q]
  by_cases e : isPair x = true
  · match x, e, q with
    | .tup [a, b], _, q =>
      have q := Bool.and_eq_true_iff.mp q
      simp! [isPair, q.1]
      cases a with
      | str s =>
        simp! [isiD, isLine]
        by_cases e : s = "row"
        · subst e
          simp! [decide_true, sp_is_number, q.2]
        · simp! [e, decide_false]
          by_cases e : s = "column"
          · subst e
            simp! [decide_true, sp_is_number, q.2, Bool.true_and]
          · simp! [e, decide_false, Bool.false_and]
      | _ => simp! [isiD, isLine]
  · have e' : isPair x = false := by simpa using e
    have e2 : isLine r c x = false := by
      unfold isLine
      split
      · exact absurd rfl e
      · rfl
    simp! [e', e2]
theorem ow_is_line : ownM E.P h (.d (planD r c cs ps)) "is_line" = some ("Plan" : Str) := by kernel_rfl
theorem ow_lines : ownM E.P h (.d (planD r c cs ps)) "lines" = some ("Plan" : Str) := by kernel_rfl
theorem ow_cells_of : ownM E.P h (.d (planD r c cs ps)) "cells_of" = some ("Plan" : Str) := by kernel_rfl
theorem sp_Plan_is_line (q : tyd2 E.P x = true) : E.c (n + 4) "Plan" "is_line" [.d (planD r c cs ps), .d x] h = .ok (.w (.d (.bl (isLine r c x)))) h := by
  rw [run_Plan_is_line]
  simp! [F_Plan_is_line, pl_rc, pl_cc, sp_is_line_within, q]
def lineD (s : Str) (k : Nat) : D := .tup [.str s, .int k]
def linesD (r c : Int) : List D := (List.range r.toNat).map (lineD "row") ++ (List.range c.toNat).map (lineD "column")
theorem le_size {k : Nat} (h : k ≤ 100) : k ≤ sizeLine := Nat.le_trans h (by decide)
theorem lines_go {s : Str} {f : D → Cells → Out (Option D)} (hr : r ≤ 30) (hf : ∀ k : Nat, f (.int k) h = .ok (some (lineD s k)) h) : lcGo f (rangeD r) [] h = .ok ((List.range r.toNat).map (lineD s)) h :=
  lcGo_mapT (fun k : Nat => D.int k) (lineD s) (List.range r.toNat) (by rw [List.length_range]; exact le_size (by omega)) fun k _ => hf k
theorem sp_Plan_lines (hr : 1 ≤ r ∧ r ≤ 30) (hc : 1 ≤ c ∧ c ≤ 30) : E.c (n + 1) "Plan" "lines" [.d (planD r c cs ps)] h = .ok (.new (.lst (linesD r c))) h := by
  rw [run_Plan_lines]
  have e1 : -(2 ^ 62) ≤ r ∧ r < 2 ^ 62 := by omega
  have e2 : -(2 ^ 62) ≤ c ∧ c < 2 ^ 62 := by omega
  simp! [F_Plan_lines, pl_rc, pl_cc, range_i e1]
  rw [lines_go (s := "row") hr.2 (fun k => by simp! []; rfl)]
  simp! [pl_cc, range_i e2]
  rw [lines_go (s := "column") hc.2 (fun k => by simp! []; rfl)]
  simp! [add_ll (show ((List.range r.toNat).map (lineD "row")).length + ((List.range c.toNat).map (lineD "column")).length ≤ sizeLine from by rw [List.length_map, List.length_map, List.length_range, List.length_range]; exact le_size (by omega))]
  rfl
end
end Pe.Pv
set_option maxHeartbeats 4000000
namespace Pe.Pv
open PySem Pw
section
variable {n m : Nat} {h : Cells} {a b c k : Int}
/-! ### drawn numbers -/
theorem mulOk_r {i j : Int} (q : -(2 ^ 64) < j ∧ j < 2 ^ 64) : mulOk i j = true := by
  unfold mulOk
  simp only [Bool.or_eq_true, Bool.and_eq_true, decide_eq_true_eq]
  exact .inr q
theorem mulOk_l {i j : Int} (q : -(2 ^ 64) < i ∧ i < 2 ^ 64) : mulOk i j = true := by
  unfold mulOk
  simp only [Bool.or_eq_true, Bool.and_eq_true, decide_eq_true_eq]
  exact .inl q
def strm (a b : Int) : Cell := ⟨.lst [.int a, .int b], false⟩
def sizeOf_ (cell : Int) : Int := if -1 - cell > cell then -1 - cell else cell
def strA (s : Int) : Int := s * (if decide (1000000000000000000 ≤ s) = true then 1 else 0)
def strB (s k : Int) : Int := (s % 2147483629 + 7919 * k * k + 31 * k + 17) * 48271 % 2147483647
theorem size_fold (cell : Int) : (if -1 - cell > cell then -1 - cell else cell) = sizeOf_ cell := rfl
theorem mulOk_b {i : Int} {p : Prop} [Decidable p] : mulOk i (if p then 1 else 0) = true := mulOk_r (by split <;> decide)
theorem stream_core (k0 : 0 ≤ k) (k1 : k < 1000) (ns : List D) (cell : Int) : fin false h.length (evalSs E.P (E.c n) E.wf (F__law_stream.body.drop 2) [some (.d (.lst ns)), some (.d (.int k)), some (.d (.int cell)), none, none] h) = .ok (.new (.lst [.int (strA (sizeOf_ cell)), .int (strB (sizeOf_ cell) k)])) h := by
  have q1 : mulOk 7919 k = true := mulOk_l (by decide)
  have q2 : mulOk (7919 * k) k = true := mulOk_r (by omega)
  have q3 : mulOk 31 k = true := mulOk_l (by decide)
  have q4 : ∀ i, mulOk i 48271 = true := fun i => mulOk_r (by decide)
  have q5 : (0 : Int) < 2147483629 := by decide
  have q6 : (0 : Int) < 2147483647 := by decide
  have q7 : (0 : Int) ≤ 18 ∧ (18 : Int) ≤ 1000000 ∧ (10 : Int).natAbs < 2 ^ 64 := by decide
  have q8 : (10 : Int) ^ (18 : Int).toNat = 1000000000000000000 := by decide
  simp! [F__law_stream, List.drop_succ_cons, List.drop_zero, size_fold, q1, q2, q3, q4, q5, q6, q7, q8, mulOk_b]
  rfl
theorem sp_stream {ns : List Int} (k0 : 0 ≤ k) (k1 : k < 1000) : ∃ a b, E.c (n + 1) "" "_law_stream" [.d (.lst (ns.map .int)), .d (.int k)] h = .ok (.new (.lst [.int a, .int b])) h := by
  by_cases q : k < ns.length
  · obtain ⟨j, rfl⟩ : ∃ j : Nat, k = j := ⟨k.toNat, by omega⟩
    have hj : j < ns.length := by omega
    refine ⟨strA (sizeOf_ ns[j]), strB (sizeOf_ ns[j]) j, ?_⟩
    rw [run__law_stream, ← stream_core (n := n) (h := h) k0 k1 (ns.map .int) ns[j]]
    have e : subM (.d (.lst (ns.map .int))) (.int j) h = .ok (.w (.d (.int ns[j]))) h := by
      refine sub_d ?_
      have e : ixAt (ns.map D.int).length (j : Int) = some j := by unfold ixAt; rw [if_pos (by omega), if_pos (by rw [List.length_map]; omega)]; simp
      show (match ixAt (ns.map D.int).length (j : Int) with | some j => (ns.map D.int)[j]? | none => none) = _
      rw [e]
      simp [hj]
    have q' : (j : Int) < ((ns.map D.int).length : Int) := by rw [List.length_map]; exact q
    obtain ⟨rest, er⟩ : ∃ r, F__law_stream.body.drop 2 = r := ⟨_, rfl⟩
    rw [er, show F__law_stream.body = F__law_stream.body.take 2 ++ rest from by rw [← er, List.take_append_drop]]
    clear er
    simp! [F__law_stream, List.take_succ_cons, List.take_zero, q', decide_true, e]
  · refine ⟨strA (sizeOf_ 0), strB (sizeOf_ 0) k, ?_⟩
    rw [run__law_stream, ← stream_core (n := n) (h := h) k0 k1 (ns.map .int) 0]
    have q' : ¬ k < ((ns.map D.int).length : Int) := by rw [List.length_map]; exact q
    obtain ⟨rest, er⟩ : ∃ r, F__law_stream.body.drop 2 = r := ⟨_, rfl⟩
    rw [er, show F__law_stream.body = F__law_stream.body.take 2 ++ rest from by rw [← er, List.take_append_drop]]
    clear er
    simp! [F__law_stream, List.take_succ_cons, List.take_zero, q', decide_false]
def nxt (b : Int) : Int := (b * 69621 + 7) % 2147483647
def drawV (a b c : Int) : Int := if 0 < a then a % c else nxt b * nxt b % 2147483629 / 32 % c
def drawA (a c : Int) : Int := if 0 < a then a / c else a
def drawB (a b : Int) : Int := if 0 < a then b else nxt b
theorem drawV_ge (hc : 0 < c) : 0 ≤ drawV a b c := by
  unfold drawV
  split <;> exact Int.emod_nonneg _ (by omega)
theorem drawV_lt (hc : 0 < c) : drawV a b c < c := by
  unfold drawV
  split <;> exact Int.emod_lt_of_pos _ hc
theorem set_get {c0 c1 : Cell} (e : h[m]? = some c0) : (h.set m c1)[m]? = some c1 := by
  rw [List.getElem?_set_self (List.getElem?_eq_some_iff.mp e).1]
theorem set_set' {c1 c2 : Cell} : (h.set m c1).set m c2 = h.set m c2 := List.set_set ..
theorem set_len {c1 : Cell} : (h.set m c1).take h.length = h.set m c1 := by
  rw [← List.length_set (as := h) (i := m) (a := c1), List.take_length]
theorem sp_draw (e : h[m]? = some (strm a b)) (hc : 0 < c ∧ c < 1073741824) : E.c (n + 1) "" "_law_draw" [.r m, .d (.int c)] h = .ok (.w (.d (.int (drawV a b c)))) (h.set m (strm (drawA a c) (drawB a b))) := by
  rw [run__law_draw]
  have e' : h[m]? = some ⟨.lst [.int a, .int b], false⟩ := e
  by_cases q : 0 < a
  · simp! [F__law_draw, e', q, decide_true, hc.1, hc, set_get e', set_len]
    unfold drawV drawA drawB
    rw [if_pos q, if_pos q, if_pos q]; rfl
  · have q1 : ∀ i, mulOk i 69621 = true := fun i => mulOk_r (by decide)
    have q2 : mulOk (nxt b) (nxt b) = true := by
      have h1 := Int.emod_nonneg (b * 69621 + 7) (b := 2147483647) (by decide)
      have h2 := Int.emod_lt_of_pos (b * 69621 + 7) (b := 2147483647) (by decide)
      exact mulOk_l (by unfold nxt; omega)
    have q3 : (b * 69621 + 7) % 2147483647 = nxt b := rfl
    have q5 : (0 : Int) < 2147483629 := by decide
    have q6 : (0 : Int) < 2147483647 := by decide
    have q7 : (0 : Int) < 32 ∧ (32 : Int) < 1073741824 := by decide
    simp! [F__law_draw, e', q, decide_false, q1, q2, q3, q5, q6, q7, hc.1, set_get e', set_len]
    unfold drawV drawA drawB
    rw [if_neg q, if_neg q, if_neg q]; rfl
theorem draw0 {r : Cells} (h1 : 0 < c) (h2 : c < 1073741824) : E.c (n + 1) "" "_law_draw" [.r 0, .d (.int c)] (⟨.lst [.int a, .int b], false⟩ :: r) = .ok (.w (.d (.int (drawV a b c)))) (⟨.lst [.int (drawA a c), .int (drawB a b)], false⟩ :: r) :=
  sp_draw (m := 0) (h := ⟨.lst [.int a, .int b], false⟩ :: r) rfl ⟨h1, h2⟩
theorem draw1 {r : Cells} {c0 : Cell} (h1 : 0 < c) (h2 : c < 1073741824) : E.c (n + 1) "" "_law_draw" [.r 1, .d (.int c)] (c0 :: ⟨.lst [.int a, .int b], false⟩ :: r) = .ok (.w (.d (.int (drawV a b c)))) (c0 :: ⟨.lst [.int (drawA a c), .int (drawB a b)], false⟩ :: r) :=
  sp_draw (m := 1) (h := c0 :: ⟨.lst [.int a, .int b], false⟩ :: r) rfl ⟨h1, h2⟩
theorem range_draw (h1 : 0 < c) (h2 : c < 1073741824) : rangeM (.int (drawV a b c)) h = .ok (rangeD (drawV a b c)) h :=
  range_i ⟨by have := drawV_ge (a := a) (b := b) h1; omega, by have := drawV_lt (a := a) (b := b) h1; omega⟩
theorem drawn (a b c : Int) (h : 0 < c) : 0 ≤ drawV a b c ∧ drawV a b c < c := ⟨drawV_ge h, drawV_lt h⟩
def Strm (h : Cells) : Prop := ∃ a b, h = [⟨.lst [.int a, .int b], false⟩]
theorem mem_rangeD {n : Int} {x : D} (h : x ∈ rangeD n) : ∃ k : Int, x = .int k ∧ 0 ≤ k ∧ k < n := by
  unfold rangeD at h
  obtain ⟨k, hk, rfl⟩ := List.mem_map.mp h
  exact ⟨k, rfl, by omega, by have := List.mem_range.mp hk; omega⟩
theorem rangeD_len {n : Int} : (rangeD n).length = n.toNat := by unfold rangeD; rw [List.length_map, List.length_range]
end
end Pe.Pv
set_option maxHeartbeats 4000000
namespace Pe.Pv
open PySem Pw
section
variable {n : Nat} {h : Cells} {x : D} {r c : Int} {ps : List (D × D)}
/-- the cells of a line -/
def onLine (x : D) (cs : List Cell2) : List Cell2 := match x with
  | .tup [.str s, .int k] => cs.filter fun p => decide ((if s = "row" then p.1 else p.2) = k)
  | _ => []
theorem isNumber_int {k : D} {lo hi : Int} (q : isNumber k lo hi = true) : ∃ i, k = .int i ∧ lo ≤ i ∧ i ≤ hi := by
  cases k <;> first | (cases q; done) | skip
  rename_i i
  simp [isNumber] at q
  exact ⟨i, rfl, q⟩
theorem isLine_row {s : Str} {k : D} (q : isLine r c (.tup [.str s, k]) = true) : (s = "row" ∧ ∃ i, k = .int i ∧ 0 ≤ i ∧ i ≤ r - 1) ∨ (s = "column" ∧ ∃ i, k = .int i ∧ 0 ≤ i ∧ i ≤ c - 1) := by
  simp only [isLine] at q
  split at q
  · rename_i e
    exact .inl ⟨e, isNumber_int q⟩
  · rw [Bool.and_eq_true] at q
    exact .inr ⟨of_decide_eq_true q.1, isNumber_int q.2⟩
theorem sp_cells_of {cs : List Cell2} (hl : cs.length ≤ sizeLine) (q : tyd2 E.P x = true) : E.c (n + 5) "Plan" "cells_of" [.d (planD r c (cs.map pD) ps), .d x] h = if isLine r c x then .ok (.new (.lst ((onLine x cs).map pD))) h else .exc ⟨"InvalidLine", []⟩ h := by
  rw [run_Plan_cells_of]
  simp! [F_Plan_cells_of, ow_is_line, sp_Plan_is_line, q]
  by_cases e : isLine r c x = true
  · match x, e with
    | .tup [.str s, k], e =>
      rcases isLine_row e with ⟨rfl, i, rfl, _, _⟩ | ⟨rfl, i, rfl, _, _⟩
      · simp! [e, pl_oc]
        rw [lcGo_mapF pD (fun p => decide (p.1 = i)) pD cs hl (fun p hp => by simp! [decide_true, ok_ite]; by_cases e : p.1 = i <;> simp! [e, decide_true, decide_false])]
        simp! [onLine]
      · simp! [e, pl_oc]
        rw [lcGo_mapF pD (fun p => decide (p.2 = i)) pD cs hl (fun p hp => by simp! [decide_false, ok_ite]; by_cases e : p.2 = i <;> simp! [e, decide_true, decide_false])]
        simp! [onLine]
  · have e : isLine r c x = false := by simpa using e
    simp! [e]
theorem lines_fold : (List.range r.toNat).map (lineD "row") ++ (List.range c.toNat).map (lineD "column") = linesD r c := (rfl)
theorem mem_linesD {x : D} (hx : x ∈ linesD r c) : (∃ k : Nat, x = lineD "row" k ∧ (k : Int) < r) ∨ ∃ k : Nat, x = lineD "column" k ∧ (k : Int) < c := by
  unfold linesD at hx
  rcases List.mem_append.mp hx with hx | hx
  · obtain ⟨k, hk, rfl⟩ := List.mem_map.mp hx
    exact .inl ⟨k, rfl, by have := List.mem_range.mp hk; omega⟩
  · obtain ⟨k, hk, rfl⟩ := List.mem_map.mp hx
    exact .inr ⟨k, rfl, by have := List.mem_range.mp hk; omega⟩
theorem lst_pl {xs : List D} (h : ∀ x ∈ xs, x.pl = true) : (D.lst xs).pl = true := by
  unfold D.pl
  rw [pls_all]
  exact List.all_eq_true.mpr h
theorem lst_dep {xs : List D} {n : Nat} (h : ∀ x ∈ xs, x.dep ≤ n) : (D.lst xs).dep ≤ n + 1 := by
  unfold D.dep
  exact Nat.succ_le_succ (deps_le h)
theorem lines_pl : (D.lst (linesD r c)).pl = true := lst_pl fun x hx => by
  rcases mem_linesD hx with ⟨k, rfl, _⟩ | ⟨k, rfl, _⟩ <;> rfl
theorem lines_dep : (D.lst (linesD r c)).dep ≤ 60 := Nat.le_trans (lst_dep (n := 2) fun x hx => by
  rcases mem_linesD hx with ⟨k, rfl, _⟩ | ⟨k, rfl, _⟩ <;> simp [lineD, D.dep, D.deps]) (by decide)
theorem cells_pl {l : List Cell2} : (D.lst (l.map pD)).pl = true := lst_pl fun x hx => by
  obtain ⟨p, _, rfl⟩ := List.mem_map.mp hx
  rfl
theorem cells_dep {l : List Cell2} : (D.lst (l.map pD)).dep ≤ 60 := Nat.le_trans (lst_dep (n := 2) fun x hx => by
  obtain ⟨p, _, rfl⟩ := List.mem_map.mp hx
  simp [pD, D.dep, D.deps]) (by decide)
end
end Pe.Pv
set_option maxHeartbeats 4000000
namespace Pe.Pv
open PySem Pw
section
variable {n : Nat} {h : Cells} {x : D} {r c : Int} {ps : List (D × D)}
/-! ### heights, views -/
def isHeight (x : D) : Bool := isNumber x 0 1000000000000000000000000000000
theorem sp_is_height (q : x.tyd E.P = true) : E.c (n + 3) "" "is_height" [.d x] h = .ok (.w (.d (.bl (isHeight x)))) h := by
  rw [run_is_height]
  simp! [F_is_height, sp_is_number, q]
  rfl
def heightsOk (xs : List D) : Bool := decide (1 ≤ xs.length) && decide (xs.length ≤ 30) && xs.all isHeight
theorem asBools_all {f : D → Bool} : ∀ {l : List D}, asBools (l.map fun x => D.bl (f x)) = some (l.map f) := fun {l} => asBools_map f l
theorem all_map {f : D → Bool} : ∀ {l : List D}, (l.map f).all id = l.all f
  | [] => rfl
  | x :: r => by rw [List.map_cons, List.all_cons, List.all_cons, all_map]; rfl
theorem sp_is_height_list {xs : List D} (q : ∀ x ∈ xs, x.tyd E.P = true) : E.c (n + 4) "" "is_height_list" [.d (.lst xs)] h = .ok (.w (.d (.bl (heightsOk xs)))) h := by
  rw [run_is_height_list]
  simp! [F_is_height_list, isiD]
  unfold heightsOk
  by_cases e1 : 1 ≤ xs.length
  · have e1' : (1 : Int) ≤ (xs.length : Int) := by omega
    by_cases e2 : xs.length ≤ 30
    · have e2' : (xs.length : Int) ≤ 30 := by omega
      simp! [e1', e2', decide_true]
      have hx := lcGo_mapT (h := h) (f := hid (x := ⟨fun x h => bindTo (.name 1) x [some (.d (.lst xs)), none] (hid (x := ⟨fun ρ' => (evalE E.P (E.c (n + 3)) ρ' (.call "is_height" [.var 1]) h).toD.bind (hid (x := ⟨fun y h => .ok (some y) h⟩))⟩))⟩)) id (fun x => .bl (isHeight x)) xs (le_size (by omega)) (fun x hx => by simp! [id_eq, sp_is_height, q x hx])
      rw [List.map_id] at hx
      rw [hx]
      simp! [all_l asBools_all, all_map, e1, e2, decide_true, Bool.true_and]
    · have e2' : ¬ (xs.length : Int) ≤ 30 := by omega
      simp! [e1', e2', e2, decide_true, decide_false, Bool.and_false, Bool.false_and]
  · have e1' : ¬ (1 : Int) ≤ (xs.length : Int) := by omega
    simp! [e1', e1, decide_false, Bool.false_and]
def viewsD (s f : List D) : D := .ins "Views" [("side", .lst s), ("front", .lst f)]
def iniV (s f : List D) : Ob := .ins "Views" [("side", .d (.lst s)), ("front", .d (.lst f))]
variable {s f : List D}
theorem vw_tyd : (viewsD s f).tyd E.P = true := (rfl)
theorem vw_side : attrM E.P (E.c n) (.d (viewsD s f)) "side" h = .ok (.w (.d (.lst s))) h := (rfl)
theorem vw_front : attrM E.P (E.c n) (.d (viewsD s f)) "front" h = .ok (.w (.d (.lst f))) h := (rfl)
theorem vw_rows : attrM E.P (E.c n) (.d (viewsD s f)) "row_heights" h = (E.c n "Views" "row_heights" [.d (viewsD s f)] h).calm := attr_p po_Views_row_heights
theorem vw_cols : attrM E.P (E.c n) (.d (viewsD s f)) "column_heights" h = (E.c n "Views" "column_heights" [.d (viewsD s f)] h).calm := attr_p po_Views_column_heights
theorem sp_Views_row_heights : E.c (n + 1) "Views" "row_heights" [.d (viewsD s f)] h = .ok (.new (.lst s)) h := by
  rw [run_Views_row_heights]; simp! [F_Views_row_heights, vw_side]
theorem sp_Views_column_heights : E.c (n + 1) "Views" "column_heights" [.d (viewsD s f)] h = .ok (.new (.lst f)) h := by
  rw [run_Views_column_heights]; simp! [F_Views_column_heights, vw_front]
theorem sp_Views_init (h1 : heightsOk s = true) (h2 : heightsOk f = true) (q1 : ∀ x ∈ s, x.tyd E.P = true) (q2 : ∀ x ∈ f, x.tyd E.P = true) :
    E.c (n + 5) "Views" "__init__" [.r h.length, .d (.lst s), .d (.lst f)] (h ++ [⟨.ins "Views" [], false⟩]) = .ok (.w (.d .non)) (h ++ [⟨iniV s f, false⟩]) := by
  rw [run_Views_DinitD]
  simp! [F_Views_DinitD, sp_is_height_list q1, sp_is_height_list q2, h1, h2]
  rfl
theorem toW_iniV : (Out.ok (.new (iniV s f)) h).toW = .ok (.d (viewsD s f)) h := (rfl)
theorem asg_iniV {ρ : Env} {j : Nat} : asgM false (.new (iniV s f)) h j ρ = .nx (ρ.set j (some (.d (viewsD s f)))) h := (rfl)
theorem sp_Views (h1 : heightsOk s = true) (h2 : heightsOk f = true) (q1 : ∀ x ∈ s, x.tyd E.P = true) (q2 : ∀ x ∈ f, x.tyd E.P = true) :
    callM E.P (E.c (n + 5)) "Views" [.d (.lst s), .d (.lst f)] h = .ok (.new (iniV s f)) h := by
  rw [callM_new (c := C_Views) (by kernel_rfl) cls_Views is_Views_DinitD rfl, sp_Views_init h1 h2 q1 q2]
  exact newM_ok
theorem ow_check_line : ownM E.P h (.d (viewsD s f)) "check_line" = some ("Views" : Str) := by kernel_rfl
theorem ow_height_of : ownM E.P h (.d (viewsD s f)) "height_of" = some ("Views" : Str) := by kernel_rfl
theorem sp_check_line (q : tyd2 E.P x = true) : E.c (n + 4) "Views" "check_line" [.d (viewsD s f), .d x] h = if isLine s.length f.length x then .ok (.w (.d .non)) h else .exc ⟨"InvalidLine", []⟩ h := by
  rw [run_Views_check_line]
  simp! [F_Views_check_line, vw_side, vw_front, sp_is_line_within, q]
  by_cases e : isLine s.length f.length x = true
  · simp! [e]
  · have e : isLine s.length f.length x = false := by simpa using e
    simp! [e]
theorem sp_height_row {k : Int} {z : D} (h0 : 0 ≤ k) (h1 : s[k.toNat]? = some z) : E.c (n + 5) "Views" "height_of" [.d (viewsD s f), .d (.tup [.str "row", .int k])] h = .ok (.w (.d z)) h := by
  have hl := (List.getElem?_eq_some_iff.mp h1).1
  have q : isLine s.length f.length (.tup [.str "row", .int k]) = true := by
    simp only [isLine, strEq, if_true, isNumber, Bool.and_eq_true, decide_eq_true_eq]; omega
  rw [run_Views_height_of]
  simp! [F_Views_height_of, ow_check_line, sp_check_line (x := .tup [.str "row", .int k]) rfl, q, vw_side, decide_true, sub_at h0 h1]
theorem sp_height_col {k : Int} {z : D} (h0 : 0 ≤ k) (h1 : f[k.toNat]? = some z) : E.c (n + 5) "Views" "height_of" [.d (viewsD s f), .d (.tup [.str "column", .int k])] h = .ok (.w (.d z)) h := by
  have hl := (List.getElem?_eq_some_iff.mp h1).1
  have q : isLine s.length f.length (.tup [.str "column", .int k]) = true := by
    simp only [isLine, strEq, String.reduceEq, if_false, decide_true, Bool.true_and, isNumber, Bool.and_eq_true, decide_eq_true_eq]; omega
  rw [run_Views_height_of]
  simp! [F_Views_height_of, ow_check_line, sp_check_line (x := .tup [.str "column", .int k]) rfl, q, vw_front, decide_false, sub_at h0 h1]
end
end Pe.Pv
set_option maxHeartbeats 4000000
namespace Pe.Pv
open PySem Pw
section
variable {n : Nat} {h : Cells} {x : D} {r c : Int} {s f : List D} {cs : List Cell2} {p : Cell2}
/-! ### cells of a plan -/
theorem ow_is_place {cs : List D} {ps : List (D × D)} : ownM E.P h (.d (planD r c cs ps)) "is_place" = some ("Plan" : Str) := by kernel_rfl
theorem ow_is_cell {cs : List D} {ps : List (D × D)} : ownM E.P h (.d (planD r c cs ps)) "is_cell" = some ("Plan" : Str) := by kernel_rfl
theorem sp_is_cell {qs : List D} (hp : placeOf r c (pD p) = true) : E.c (n + 4) "Plan" "is_cell" [.d (planD r c qs (kc (.bl true) cs)), .d (pD p)] h = .ok (.w (.d (.bl (decide (p ∈ cs))))) h := by
  rw [run_Plan_is_cell]
  simp! [F_Plan_is_cell, ow_is_place, sp_is_place (w := .d (planD r c qs (kc (.bl true) cs))) rfl (fun n => pl_rc) (fun n => pl_cc) (x := pD p) rfl, hp, pl_pl, in_kc]
theorem sp_lines_through : E.c (n + 1) "" "lines_through" [.d (pD p)] h = .ok (.new (.lst [.tup [.str "row", .int p.1], .tup [.str "column", .int p.2]])) h := by
  rw [run_lines_through]
  simp! [F_lines_through]
/-! ### bounds -/
abbrev Bnd := Int × Option Int
def upD : Option Int → D
  | none => .non
  | some u => .int u
def bndD (b : Bnd) : D := .tup [.int b.1, upD b.2]
def bndOk (b : Bnd) : Bool := decide (0 ≤ b.1) && decide (b.1 ≤ 1000000000000000000000000000000) && (match b.2 with
  | none => true
  | some u => decide (0 ≤ u) && decide (u ≤ 1000000000000000000000000000000) && decide (b.1 ≤ u))
theorem sp_are_bounds {b : Bnd} (hb : bndOk b = true) : E.c (n + 4) "" "are_bounds" [.d (bndD b)] h = .ok (.w (.d (.bl true))) h := by
  rw [run_are_bounds]
  obtain ⟨lo, up⟩ := b
  simp only [bndOk, Bool.and_eq_true, decide_eq_true_eq] at hb
  have e1 : isHeight (.int lo) = true := by simp only [isHeight, isNumber, Bool.and_eq_true, decide_eq_true_eq]; exact hb.1
  cases up with
  | none => simp! [F_are_bounds, sp_is_pair, bndD, upD, isPair, sp_is_height, e1, isNon]
  | some u =>
    have h2 := hb.2
    simp only [Bool.and_eq_true, decide_eq_true_eq] at h2
    have e2 : isHeight (.int u) = true := by simp only [isHeight, isNumber, Bool.and_eq_true, decide_eq_true_eq]; exact h2.1
    simp! [F_are_bounds, sp_is_pair, bndD, upD, isPair, sp_is_height, e1, e2, isNon, h2.2, decide_true]
variable {bl : List (Cell2 × Bnd)} {w : W} {hs gs : List Int}
theorem sp_check_bounds {qs : List D} (hl : ∀ q ∈ bl, placeOf r c (pD q.1) = true ∧ q.1 ∈ cs ∧ bndOk q.2 = true) : E.c (n + 5) "" "check_bounds" [.d (planD r c qs (kc (.bl true) cs)), .d (.dic (kv bndD bl))] h = .ok (.w (.d .non)) h := by
  rw [run_check_bounds]
  simp! [F_check_bounds, isNon, isiD]
  refine next_for (T := fun o => fin false h.length o = .ok (.w (.d .non)) h) (fun ρ' h' => h' = h ∧ ∃ a b, ρ' = [some (.d (planD r c qs (kc (.bl true) cs))), some (.d (.dic (kv bndD bl))), a, b]) ⟨rfl, _, _, rfl⟩ ?_ ?_
  · rintro x hx ρ' h' ⟨rfl, a, b, rfl⟩
    obtain ⟨kvp, hk, rfl⟩ := List.mem_map.mp hx
    obtain ⟨q, hq, rfl⟩ := List.mem_map.mp hk
    obtain ⟨q1, q2, q3⟩ := hl q hq
    simp! [ow_is_cell, sp_is_cell q1, q2, decide_true, sp_are_bounds q3]
    exact ⟨_, _, rfl⟩
  · rintro ρ' h' ⟨rfl, a, b, rfl⟩
    simp! []
theorem sp_check_views {qs : List D} {ps : List (D × D)} (h1 : (s.length : Int) = r) (h2 : (f.length : Int) = c) : E.c (n + 2) "" "check_views" [.d (planD r c qs ps), .d (viewsD s f)] h = .ok (.w (.d .non)) h := by
  rw [run_check_views]
  have t1 : isiD (.own "Views") (viewsD s f) = true := by unfold viewsD; simp only [isiD, decide_true]
  simp! [F_check_views, vw_tyd, t1, vw_rows, vw_cols, sp_Views_row_heights, sp_Views_column_heights, pp_rows, pp_columns, sp_Plan_rows, sp_Plan_columns, h1, h2, decide_true]
/-- the least of what limits a cell -/
def topOf (hs gs : List Int) (b : Bnd) (p : Cell2) : Int := match b.2 with
  | none => minI (hs.getD p.1.toNat 0) [gs.getD p.2.toNat 0]
  | some u => minI (hs.getD p.1.toNat 0) [gs.getD p.2.toNat 0, u]
def bndAt (bl : List (Cell2 × Bnd)) (p : Cell2) : Bnd := (aget bl p).getD (1, none)
theorem bnd_get : getOr bndD (aget bl p) (D.tup [.int 1, .non]) = bndD (bndAt bl p) := by
  unfold bndAt getOr
  cases aget bl p <;> rfl
theorem sp_least_limit (hw : W.norm h w = w) (a1 : ∀ n, attrM E.P (E.c n) w "own_views" h = .ok (.w (.d (viewsD (hs.map .int) (gs.map .int)))) h) (a2 : ∀ n, attrM E.P (E.c n) w "limits" h = .ok (.w (.d (.dic (kv bndD bl)))) h)
    (p1 : 0 ≤ p.1 ∧ p.1 < hs.length) (p2 : 0 ≤ p.2 ∧ p.2 < gs.length) : E.c (n + 6) "Task" "least_limit" [w, .d (pD p)] h = .ok (.w (.d (.int (topOf hs gs (bndAt bl p) p)))) h := by
  have g1 : (hs.map D.int)[p.1.toNat]? = some (.int (hs.getD p.1.toNat 0)) := by
    rw [List.getElem?_map, List.getElem?_eq_getElem (by omega)]
    simp [List.getD, List.getElem?_eq_getElem (show p.1.toNat < hs.length by omega)]
  have g2 : (gs.map D.int)[p.2.toNat]? = some (.int (gs.getD p.2.toNat 0)) := by
    rw [List.getElem?_map, List.getElem?_eq_getElem (by omega)]
    simp [List.getD, List.getElem?_eq_getElem (show p.2.toNat < gs.length by omega)]
  rw [run_Task_least_limit]
  simp! [F_Task_least_limit, hw, a1, a2, sp_lines_through, lc_cons, lc_nil, lcPush_s, lt_sz, ow_height_of, sp_height_row p1.1 g1, sp_height_col p2.1 g2, Nat.reduceLT, get_kv, bnd_get]
  obtain ⟨lo, up⟩ := bndAt bl p
  cases up with
  | none =>
    simp! [bndD, upD, isNon, min_l (xs := [.int (hs.getD p.1.toNat 0), .int (gs.getD p.2.toNat 0)]) rfl]
    rfl
  | some u =>
    simp! [bndD, upD, isNon, Nat.reduceLeDiff, min_l (xs := [.int (hs.getD p.1.toNat 0), .int (gs.getD p.2.toNat 0), .int u]) rfl]
    rfl
/-! ### a task is made -/
def iniT (r c : Int) (cs : List Cell2) (hs gs : List Int) (lim : List (Cell2 × Bnd)) (tops : List (Cell2 × Int)) : Ob := .ins "Task" [("own_plan", .d (planC r c cs)), ("own_views", .d (viewsD (hs.map .int) (gs.map .int))), ("limits", .d (.dic (kv bndD lim))), ("tops", .d (.dic (kv D.int tops)))]
def limOf (bl : List (Cell2 × Bnd)) : List (Cell2 × Bnd) := ((sortC (keys2 bl)).filter fun p => !decide (bndAt bl p = (1, none))).map fun p => (p, bndAt bl p)
def topsOf (cs : List Cell2) (hs gs : List Int) (lim : List (Cell2 × Bnd)) : List (Cell2 × Int) := (cellsOf cs).map fun p => (p, topOf hs gs (bndAt lim p) p)
theorem eq_bnd {P : Prog} {cl : Cl} {b : Bnd} : eqM P cl (.d (bndD b)) (.d (.tup [.int 1, .non])) h = .ok (decide (b = (1, none))) h := by
  obtain ⟨lo, up⟩ := b
  unfold bndD
  rw [eq_dd rfl]
  cases up with
  | none =>
    show (match (some (D.eqv (.tup [.int lo, .non]) (.tup [.int 1, .non]))) with | some r => Out.ok r h | none => .bad) = _
    have e : D.eqv (.tup [.int lo, .non]) (.tup [.int 1, .non]) = decide ((lo, (none : Option Int)) = (1, none)) := by
      simp [D.eqv, D.eqvs]
      by_cases e : lo = 1 <;> simp [e]
    rw [e]
  | some u =>
    show (match (some (D.eqv (.tup [.int lo, .int u]) (.tup [.int 1, .non]))) with | some r => Out.ok r h | none => .bad) = _
    have e : D.eqv (.tup [.int lo, .int u]) (.tup [.int 1, .non]) = decide ((lo, (some u : Option Int)) = (1, none)) := by
      simp [D.eqv, D.eqvs]
    rw [e]
theorem aget_mem {α : Type} : ∀ {l : List (Cell2 × α)} {p : Cell2}, p ∈ keys2 l → ∃ v, aget l p = some v
  | [], _, h => by cases h
  | (q, v) :: r, p, h => by
    unfold aget
    by_cases e : q = p
    · exact ⟨v, if_pos e⟩
    · rw [if_neg e]
      rcases List.mem_cons.mp (show p ∈ q :: keys2 r from h) with z | z
      · exact absurd z.symm e
      · exact aget_mem z
theorem sp_Task_init (hr : 1 ≤ r ∧ r ≤ 30) (hc : 1 ≤ c ∧ c ≤ 30) (h1 : (hs.length : Int) = r) (h2 : (gs.length : Int) = c) (hcs : okC r c cs) (hl : cs.length ≤ sizeLine) (hbl : bl.length ≤ sizeLine) (nd : (keys2 bl).Nodup) (hb : ∀ q ∈ bl, placeOf r c (pD q.1) = true ∧ q.1 ∈ cellsOf cs ∧ bndOk q.2 = true) :
    E.c (n + 7) "Task" "__init__" [.r h.length, .d (planC r c cs), .d (viewsD (hs.map .int) (gs.map .int)), .d (.dic (kv bndD bl))] (h ++ [⟨.ins "Task" [], false⟩]) = .ok (.w (.d .non)) (h ++ [⟨iniT r c cs hs gs (limOf bl) (topsOf cs hs gs (limOf bl)), false⟩]) := by
  rw [run_Task_DinitD]
  have t0 : isiD (.own "Plan") (planC r c cs) = true := by unfold planC planD; simp only [isiD, decide_true]
  have t1 : (planC r c cs).tyd E.P = true := (rfl)
  have l1 : ((hs.map D.int).length : Int) = r := by rw [List.length_map]; exact h1
  have l2 : ((gs.map D.int).length : Int) = c := by rw [List.length_map]; exact h2
  have cv : ∀ h, E.c (n + 6) "" "check_views" [.d (planC r c cs), .d (viewsD (hs.map .int) (gs.map .int))] h = .ok (.w (.d .non)) h := fun h => sp_check_views (n := n + 4) l1 l2
  have cb : ∀ h, E.c (n + 6) "" "check_bounds" [.d (planC r c cs), .d (.dic (kv bndD bl))] h = .ok (.w (.d .non)) h := fun h => sp_check_bounds (n := n + 1) hb
  have cc : ∀ h, attrM E.P (E.c (n + 6)) (.d (planC r c cs)) "cells" h = .ok (.new (.lst ((cellsOf cs).map pD))) h := fun h => by
    unfold planC
    rw [pp_cells, sp_Plan_cells, Pw.calm_ok]
  simp! [F_Task_DinitD, t0, t1, cv, cb, gl_new, norm_new, set_new, isNon, sorted_kv]
  rw [dcGo_kv0 bndD (bndAt bl) (fun p => !decide (bndAt bl p = (1, none))) (by unfold sortC; exact (List.mergeSort_perm _ _).nodup_iff.mpr nd) (by unfold sortC keys2; rw [List.length_mergeSort, List.length_map]; exact hbl) (fun p hp => ?_)]
  rotate_left
  · obtain ⟨v, hv⟩ := aget_mem (mem_sortC.mp hp)
    have e : aget bl p = some (bndAt bl p) := by unfold bndAt; rw [hv]; rfl
    simp! [norm_new, sub_kv e, eq_bnd]
    by_cases e2 : bndAt bl p = (1, none) <;> simp! [e2, decide_true, decide_false, sub_kv e]
  simp! [gl_new, norm_new, set_new, cc]
  rw [show (((sortC (keys2 bl)).filter fun p => !decide (bndAt bl p = (1, none))).map fun p => (p, bndAt bl p)) = limOf bl from rfl]
  rw [dcGo_kvT D.int (fun p => topOf hs gs (bndAt (limOf bl) p) p) (cellsOf_nodup cs) (Nat.le_trans (cellsOf_len cs) hl) (fun p hp => ?_)]
  rotate_left
  · obtain ⟨⟨b1, b2⟩, b3, b4⟩ := hcs p (mem_cellsOf.mp hp)
    simp! [norm_new, gl_new]
    rw [sp_least_limit (bl := limOf bl) (hs := hs) (gs := gs) norm_new (fun n => by simp! [gl_new]) (fun n => by simp! [gl_new]) ⟨b1, by omega⟩ ⟨b3, by omega⟩]
    simp! []
  simp! [gl_new, norm_new, set_new]
  rfl
def taskD (r c : Int) (cs : List Cell2) (hs gs : List Int) (lim : List (Cell2 × Bnd)) (tops : List (Cell2 × Int)) : D := .ins "Task" [("own_plan", planC r c cs), ("own_views", viewsD (hs.map .int) (gs.map .int)), ("limits", .dic (kv bndD lim)), ("tops", .dic (kv D.int tops))]
theorem toW_iniT {lim : List (Cell2 × Bnd)} {tops : List (Cell2 × Int)} : (Out.ok (.new (iniT r c cs hs gs lim tops)) h).toW = .ok (.d (taskD r c cs hs gs lim tops)) h := (rfl)
theorem asg_iniT {lim : List (Cell2 × Bnd)} {tops : List (Cell2 × Int)} {ρ : Env} {j : Nat} : asgM false (.new (iniT r c cs hs gs lim tops)) h j ρ = .nx (ρ.set j (some (.d (taskD r c cs hs gs lim tops)))) h := (rfl)
theorem sp_Task (hr : 1 ≤ r ∧ r ≤ 30) (hc : 1 ≤ c ∧ c ≤ 30) (h1 : (hs.length : Int) = r) (h2 : (gs.length : Int) = c) (hcs : okC r c cs) (hl : cs.length ≤ sizeLine) (hbl : bl.length ≤ sizeLine) (nd : (keys2 bl).Nodup) (hb : ∀ q ∈ bl, placeOf r c (pD q.1) = true ∧ q.1 ∈ cellsOf cs ∧ bndOk q.2 = true) :
    makeK E.P (E.c (n + 7)) "Task" [.d (planC r c cs), .d (viewsD (hs.map .int) (gs.map .int)), .d (.dic (kv bndD bl))] h = .ok (.new (iniT r c cs hs gs (limOf bl) (topsOf cs hs gs (limOf bl)))) h := by
  have e : makeK E.P (E.c (n + 7)) "Task" [.d (planC r c cs), .d (viewsD (hs.map .int) (gs.map .int)), .d (.dic (kv bndD bl))] h = (E.c (n + 7) "Task" "__init__" (.r h.length :: [.d (planC r c cs), .d (viewsD (hs.map .int) (gs.map .int)), .d (.dic (kv bndD bl))]) (h ++ [⟨.ins "Task" [], false⟩])).bind fun v h' => newM h.length v h' := by
    unfold makeK
    rw [cls_Task]
    rfl
  rw [e, sp_Task_init hr hc h1 h2 hcs hl hbl nd hb]
  exact newM_ok
end
end Pe.Pv
set_option maxHeartbeats 4000000
namespace Pe.Pv
open PySem Pw
section
variable {n : Nat} {h : Cells} {x : D} {r c : Int} {cs : List Cell2} {p : Cell2} {hs gs : List Int} {lim : List (Cell2 × Bnd)} {tops : List (Cell2 × Int)}
/-! ### a task's own -/
theorem tk_tyd : (taskD r c cs hs gs lim tops).tyd E.P = true := (rfl)
theorem tk_plan : attrM E.P (E.c n) (.d (taskD r c cs hs gs lim tops)) "own_plan" h = .ok (.w (.d (planC r c cs))) h := (rfl)
theorem tk_views : attrM E.P (E.c n) (.d (taskD r c cs hs gs lim tops)) "own_views" h = .ok (.w (.d (viewsD (hs.map .int) (gs.map .int)))) h := (rfl)
theorem tk_limits : attrM E.P (E.c n) (.d (taskD r c cs hs gs lim tops)) "limits" h = .ok (.w (.d (.dic (kv bndD lim)))) h := (rfl)
theorem tk_tops : attrM E.P (E.c n) (.d (taskD r c cs hs gs lim tops)) "tops" h = .ok (.w (.d (.dic (kv D.int tops)))) h := (rfl)
theorem tp_plan : attrM E.P (E.c n) (.d (taskD r c cs hs gs lim tops)) "plan" h = (E.c n "Task" "plan" [.d (taskD r c cs hs gs lim tops)] h).calm := attr_p po_Task_plan
theorem tp_views : attrM E.P (E.c n) (.d (taskD r c cs hs gs lim tops)) "views" h = (E.c n "Task" "views" [.d (taskD r c cs hs gs lim tops)] h).calm := attr_p po_Task_views
theorem sp_Task_plan : E.c (n + 1) "Task" "plan" [.d (taskD r c cs hs gs lim tops)] h = .ok (.w (.d (planC r c cs))) h := by
  rw [run_Task_plan]; simp! [F_Task_plan, tk_plan]
theorem sp_Task_views : E.c (n + 1) "Task" "views" [.d (taskD r c cs hs gs lim tops)] h = .ok (.w (.d (viewsD (hs.map .int) (gs.map .int)))) h := by
  rw [run_Task_views]; simp! [F_Task_views, tk_views]
theorem ow_check_cell : ownM E.P h (.d (taskD r c cs hs gs lim tops)) "check_cell" = some ("Task" : Str) := by kernel_rfl
theorem ow_is_cellC : ownM E.P h (.d (planC r c cs)) "is_cell" = some ("Plan" : Str) := by kernel_rfl
theorem sp_check_cell (hp : placeOf r c (pD p) = true) : E.c (n + 5) "Task" "check_cell" [.d (taskD r c cs hs gs lim tops), .d (pD p)] h = if p ∈ cellsOf cs then .ok (.w (.d .non)) h else .exc ⟨"InvalidCell", []⟩ h := by
  rw [run_Task_check_cell]
  simp! [F_Task_check_cell, tk_plan, ow_is_cellC]
  have e : E.c (n + 4) "Plan" "is_cell" [.d (planC r c cs), .d (pD p)] h = .ok (.w (.d (.bl (decide (p ∈ cellsOf cs))))) h := sp_is_cell (n := n) hp
  simp! [e]
  by_cases q : p ∈ cellsOf cs <;> simp! [q, decide_true, decide_false]
theorem sp_bounds_of (hp : placeOf r c (pD p) = true) (hm : p ∈ cellsOf cs) : E.c (n + 6) "Task" "bounds_of" [.d (taskD r c cs hs gs lim tops), .d (pD p)] h = .ok (.w (.d (bndD (bndAt lim p)))) h := by
  rw [run_Task_bounds_of]
  simp! [F_Task_bounds_of, ow_check_cell, sp_check_cell hp, hm, tk_limits, get_kv, bnd_get]
theorem sp_lower : E.c (n + 1) "Task" "lower" [.d (taskD r c cs hs gs lim tops), .d (pD p)] h = .ok (.w (.d (.int (bndAt lim p).1))) h := by
  rw [run_Task_lower]
  simp! [F_Task_lower, tk_limits, get_kv, bnd_get, bndD]
theorem sp_top {v : Int} (hp : placeOf r c (pD p) = true) (hm : p ∈ cellsOf cs) (hv : aget tops p = some v) : E.c (n + 6) "Task" "top" [.d (taskD r c cs hs gs lim tops), .d (pD p)] h = .ok (.w (.d (.int v))) h := by
  rw [run_Task_top]
  simp! [F_Task_top, ow_check_cell, sp_check_cell hp, hm, tk_tops, sub_kv hv]
/-! ### the law's parts -/
def partsD (cs : List Cell2) (hs gs : List Int) (bl : List (Cell2 × Bnd)) : D := .lst [.lst (cs.map pD), .lst (hs.map .int), .lst (gs.map .int), .dic (kv bndD bl)]
theorem parts_0 {bl : List (Cell2 × Bnd)} : subM (.d (partsD cs hs gs bl)) (.int 0) h = .ok (.w (.d (.lst (cs.map pD)))) h := sub_at (by decide) rfl
theorem parts_1 {bl : List (Cell2 × Bnd)} : subM (.d (partsD cs hs gs bl)) (.int 1) h = .ok (.w (.d (.lst (hs.map .int)))) h := sub_at (by decide) rfl
theorem parts_2 {bl : List (Cell2 × Bnd)} : subM (.d (partsD cs hs gs bl)) (.int 2) h = .ok (.w (.d (.lst (gs.map .int)))) h := sub_at (by decide) rfl
theorem parts_3 {bl : List (Cell2 × Bnd)} : subM (.d (partsD cs hs gs bl)) (.int 3) h = .ok (.w (.d (.dic (kv bndD bl)))) h := sub_at (by decide) rfl
theorem sp_law_low {bl : List (Cell2 × Bnd)} : E.c (n + 1) "" "_law_low" [.d (partsD cs hs gs bl), .d (pD p)] h = .ok (.w (.d (.int (bndAt bl p).1))) h := by
  rw [run__law_low]
  simp! [F__law_low, parts_3, get_kv, bnd_get, bndD]
theorem hs_at {l : List Int} {k : Int} (h0 : 0 ≤ k) (h1 : k < l.length) : subM (.d (.lst (l.map D.int))) (.int k) h = .ok (.w (.d (.int (l.getD k.toNat 0)))) h := by
  refine sub_at h0 ?_
  rw [List.getElem?_map, List.getElem?_eq_getElem (by omega)]
  simp [List.getD, List.getElem?_eq_getElem (show k.toNat < l.length by omega)]
theorem sp_law_top {bl : List (Cell2 × Bnd)} (p1 : 0 ≤ p.1 ∧ p.1 < hs.length) (p2 : 0 ≤ p.2 ∧ p.2 < gs.length) : E.c (n + 1) "" "_law_top" [.d (partsD cs hs gs bl), .d (pD p)] h = .ok (.w (.d (.int (topOf hs gs (bndAt bl p) p)))) h := by
  rw [run__law_top]
  simp! [F__law_top, parts_1, parts_2, parts_3, get_kv, bnd_get, hs_at p1.1 p1.2, hs_at p2.1 p2.2]
  obtain ⟨lo, up⟩ := bndAt bl p
  cases up with
  | none =>
    simp! [bndD, upD, isNon, parts_1, parts_2, hs_at p1.1 p1.2, hs_at p2.1 p2.2, min_l (xs := [.int (hs.getD p.1.toNat 0), .int (gs.getD p.2.toNat 0)]) rfl]
    rfl
  | some u =>
    simp! [bndD, upD, isNon, Nat.reduceLeDiff, parts_1, parts_2, hs_at p1.1 p1.2, hs_at p2.1 p2.2, min_l (xs := [.int (hs.getD p.1.toNat 0), .int (gs.getD p.2.toNat 0), .int u]) rfl]
    rfl
theorem heights_ok {l : List Int} (h1 : 1 ≤ l.length ∧ l.length ≤ 30) (h2 : ∀ v ∈ l, 0 ≤ v ∧ v ≤ 1000000000000000000000000000000) : heightsOk (l.map D.int) = true := by
  simp only [heightsOk, List.length_map, Bool.and_eq_true, decide_eq_true_eq, List.all_eq_true, List.mem_map, forall_exists_index, and_imp, forall_apply_eq_imp_iff₂]
  exact ⟨h1, fun v hv => by simp only [isHeight, isNumber, Bool.and_eq_true, decide_eq_true_eq]; exact h2 v hv⟩
theorem ints_tyd {l : List Int} : ∀ x ∈ l.map D.int, x.tyd E.P = true := fun x hx => by
  obtain ⟨v, _, rfl⟩ := List.mem_map.mp hx
  rfl
theorem sp_law_made {bl : List (Cell2 × Bnd)} (hr : 1 ≤ hs.length ∧ hs.length ≤ 30) (hc : 1 ≤ gs.length ∧ gs.length ≤ 30) (hv : ∀ v ∈ hs, 0 ≤ v ∧ v ≤ 1000000000000000000000000000000) (gv : ∀ v ∈ gs, 0 ≤ v ∧ v ≤ 1000000000000000000000000000000)
    (hcs : okC hs.length gs.length cs) (hl : cs.length ≤ sizeLine) (hbl : bl.length ≤ sizeLine) (nd : (keys2 bl).Nodup) (hb : ∀ q ∈ bl, placeOf hs.length gs.length (pD q.1) = true ∧ q.1 ∈ cellsOf cs ∧ bndOk q.2 = true) :
    E.c (n + 8) "" "_law_made" [.d (partsD cs hs gs bl)] h = .ok (.new (iniT hs.length gs.length cs hs gs (limOf bl) (topsOf cs hs gs (limOf bl)))) h := by
  have eP : ∀ h, callM E.P (E.c (n + 7)) "Plan" [.d (.int hs.length), .d (.int gs.length), .d (.lst (cs.map pD))] h = .ok (.new (iniC hs.length gs.length cs)) h := fun h => sp_Plan (n := n + 3) ⟨by omega, by omega⟩ ⟨by omega, by omega⟩ hl hcs
  have eV : ∀ h, callM E.P (E.c (n + 7)) "Views" [.d (.lst (hs.map .int)), .d (.lst (gs.map .int))] h = .ok (.new (iniV (hs.map .int) (gs.map .int))) h := fun h => sp_Views (n := n + 2) (heights_ok hr hv) (heights_ok hc gv) ints_tyd ints_tyd
  have eT : ∀ h, makeK E.P (E.c (n + 7)) "Task" [.d (planC hs.length gs.length cs), .d (viewsD (hs.map .int) (gs.map .int)), .d (.dic (kv bndD bl))] h = .ok (.new (iniT hs.length gs.length cs hs gs (limOf bl) (topsOf cs hs gs (limOf bl)))) h := fun h => sp_Task (n := n) ⟨by omega, by omega⟩ ⟨by omega, by omega⟩ rfl rfl hcs hl hbl nd hb
  rw [run__law_made]
  simp! [F__law_made, partsD, List.length_map, eP, eV, eT, toW_iniC, toW_iniV]
  show Out.ok (Val.new (iniT hs.length gs.length cs hs gs (limOf bl) (topsOf cs hs gs (limOf bl)))) (h.take h.length) = _
  rw [List.take_length]
end
end Pe.Pv
set_option maxHeartbeats 4000000
namespace Pe.Pv
open PySem Pw
section
variable {n : Nat} {h : Cells} {x : D} {r c : Int} {cs : List Cell2} {ps : List (D × D)} {l : Ln} {pl : List (Cell2 × Int)}
/-! ### lines, views of piles -/
theorem linesD_lns : linesD r c = (lns r c).map lnD := by
  unfold linesD lns
  rw [List.map_append, List.map_map, List.map_map]
  rfl
theorem isLine_lnD (h : l ∈ lns r c) : isLine r c (lnD l) = true := by
  obtain ⟨b, k⟩ := l
  rcases mem_lns.mp h with ⟨e, hk⟩ | ⟨e, hk⟩
  · cases e
    simp only [lnD, lnS, if_true, isLine, strEq, isNumber, Bool.and_eq_true, decide_eq_true_eq]
    omega
  · cases e
    simp only [lnD, lnS, Bool.false_eq_true, if_false, isLine, strEq, String.reduceEq, decide_true, Bool.true_and, isNumber, Bool.and_eq_true, decide_eq_true_eq]
    omega
theorem onLine_lnD {cs : List Cell2} : onLine (lnD l) cs = onLn l cs := by
  obtain ⟨b, k⟩ := l
  cases b
  · simp only [lnD, lnS, onLine, onLn, Bool.false_eq_true, if_false, strEq, String.reduceEq]
  · simp only [lnD, lnS, onLine, onLn, if_true]
theorem sp_cells_ln {cs : List Cell2} (hl : cs.length ≤ sizeLine) (hln : l ∈ lns r c) : E.c (n + 5) "Plan" "cells_of" [.d (planD r c (cs.map pD) ps), .d (lnD l)] h = .ok (.new (.lst ((onLn l cs).map pD))) h := by
  rw [sp_cells_of hl rfl, isLine_lnD hln, if_pos rfl, onLine_lnD]
def hAt (pl : List (Cell2 × Int)) (p : Cell2) : Int := (aget pl p).getD 0
def seen (l : Ln) (cs : List Cell2) (pl : List (Cell2 × Int)) : Int := maxOr 0 ((onLn l cs).map (hAt pl))
def seenR (r : Int) (cs : List Cell2) (pl : List (Cell2 × Int)) : List Int := (List.range r.toNat).map fun k => seen (true, k) cs pl
def seenC (c : Int) (cs : List Cell2) (pl : List (Cell2 × Int)) : List Int := (List.range c.toNat).map fun k => seen (false, k) cs pl
theorem onLn_sub {cs : List Cell2} {p : Cell2} (h : p ∈ onLn l cs) : p ∈ cs := (List.mem_filter.mp h).1
theorem onLn_len {cs : List Cell2} : (onLn l cs).length ≤ cs.length := List.length_filter_le _ _
theorem seen_rng {m : Int} (hm : 0 ≤ m) (hk : ∀ p ∈ cs, 0 ≤ hAt pl p ∧ hAt pl p ≤ m) : 0 ≤ seen l cs pl ∧ seen l cs pl ≤ m := by
  unfold seen
  have h0 : ∀ x ∈ (onLn l cs).map (hAt pl), 0 ≤ x ∧ x ≤ m := fun x hx => by
    obtain ⟨p, hp, rfl⟩ := List.mem_map.mp hx
    exact hk p (onLn_sub hp)
  rw [maxOr_0 fun x hx => (h0 x hx).1]
  refine ⟨(maxI_ge _ 0).1, ?_⟩
  rcases maxI_mem ((onLn l cs).map (hAt pl)) 0 with e | e
  · rw [e]; exact hm
  · exact (h0 _ e).2
theorem hAt_some {p : Cell2} {v : Int} (e : aget pl p = some v) : aget pl p = some (hAt pl p) := by unfold hAt; rw [e]; rfl
theorem sp_views_of (hr : 1 ≤ r ∧ r ≤ 30) (hc : 1 ≤ c ∧ c ≤ 30) (hl : cs.length ≤ sizeLine) (hk : ∀ p ∈ cellsOf cs, ∃ v, aget pl p = some v) (hv : ∀ p ∈ cellsOf cs, 0 ≤ hAt pl p ∧ hAt pl p ≤ 1000000000000000000000000000000) :
    E.c (n + 6) "" "views_of" [.d (planC r c cs), .d (.dic (kv D.int pl))] h = .ok (.new (iniV ((seenR r (cellsOf cs) pl).map D.int) ((seenC c (cellsOf cs) pl).map D.int))) h := by
  have hcl : (cellsOf cs).length ≤ sizeLine := Nat.le_trans (cellsOf_len cs) hl
  have eL : ∀ h, E.c (n + 5) "Plan" "lines" [.d (planD r c ((cellsOf cs).map pD) (kc (.bl true) (cellsOf cs)))] h = .ok (.new (.lst ((lns r c).map lnD))) h := fun h => by rw [sp_Plan_lines (n := n + 4) hr hc, linesD_lns]
  rw [run_views_of]
  simp! [F_views_of, planC, ow_lines, eL]
  rw [dcGo_gen0 lnD lnD lnK (fun l => .int (seen l (cellsOf cs) pl)) (fun _ => rfl) lns_keys (by rw [lns_len]; exact le_size (by omega)) (fun l hl => ?_)]
  rotate_left
  · simp! [ow_cells_of, sp_cells_ln hcl hl]
    rw [lcGo_mapT pD (fun p => .int (hAt pl p)) (onLn l (cellsOf cs)) (Nat.le_trans onLn_len hcl) (fun p hp => ?_)]
    rotate_left
    · obtain ⟨v, e⟩ := hk p (onLn_sub hp)
      simp! [sub_kv (hAt_some e)]
    simp! [maxD_l (asInts_map (hAt pl) (onLn l (cellsOf cs)))]
    rfl
  have eS : ∀ (b : Bool) (k : Nat) (h : Cells), (b, k) ∈ lns r c → subM (.d (.dic ((lns r c).map fun l => (lnD l, D.int (seen l (cellsOf cs) pl))))) (lnD (b, k)) h = .ok (.w (.d (.int (seen (b, k) (cellsOf cs) pl)))) h := fun b k h hm => by
    refine sub_d ?_
    show (match (lnD (b, k)).hk with | some kk => dget ((lns r c).map fun l => (lnD l, D.int (seen l (cellsOf cs) pl))) kk | none => none) = _
    rw [hk_lnD]
    exact dget_at (κ := lnD) (kf := lnK) (g := fun l => D.int (seen l (cellsOf cs) pl)) (fun _ => rfl) lns_keys hm
  have e1 : -(2 ^ 62) ≤ r ∧ r < 2 ^ 62 := by omega
  have e2 : -(2 ^ 62) ≤ c ∧ c < 2 ^ 62 := by omega
  simp! [pp_rows, sp_Plan_rows, range_i e1]
  unfold rangeD
  rw [lcGo_mapT (fun k : Nat => D.int k) (fun k => .int (seen (true, k) (cellsOf cs) pl)) (List.range r.toNat) (by rw [List.length_range]; exact le_size (by omega)) (fun k hk => ?_)]
  rotate_left
  · have hm : (true, k) ∈ lns r c := mem_lns.mpr (.inl ⟨rfl, by have := List.mem_range.mp hk; omega⟩)
    have q : ∀ h, subM (.d (.dic ((lns r c).map fun l => (lnD l, D.int (seen l (cellsOf cs) pl))))) (.tup [.str "row", .int k]) h = .ok (.w (.d (.int (seen (true, k) (cellsOf cs) pl)))) h := fun h => eS true k h hm
    simp! [q]
  simp! [pp_columns, sp_Plan_columns, range_i e2]
  unfold rangeD
  rw [lcGo_mapT (fun k : Nat => D.int k) (fun k => .int (seen (false, k) (cellsOf cs) pl)) (List.range c.toNat) (by rw [List.length_range]; exact le_size (by omega)) (fun k hk => ?_)]
  rotate_left
  · have hm : (false, k) ∈ lns r c := mem_lns.mpr (.inr ⟨rfl, by have := List.mem_range.mp hk; omega⟩)
    have q : ∀ h, subM (.d (.dic ((lns r c).map fun l => (lnD l, D.int (seen l (cellsOf cs) pl))))) (.tup [.str "column", .int k]) h = .ok (.w (.d (.int (seen (false, k) (cellsOf cs) pl)))) h := fun h => eS false k h hm
    simp! [q]
  have m0 : (0 : Int) ≤ 1000000000000000000000000000000 := by decide
  have er : (List.range r.toNat).map (fun k => D.int (seen (true, k) (cellsOf cs) pl)) = (seenR r (cellsOf cs) pl).map D.int := by unfold seenR; rw [List.map_map]; rfl
  have ec : (List.range c.toNat).map (fun k => D.int (seen (false, k) (cellsOf cs) pl)) = (seenC c (cellsOf cs) pl).map D.int := by unfold seenC; rw [List.map_map]; rfl
  rw [er, ec]
  have h1 : heightsOk ((seenR r (cellsOf cs) pl).map D.int) = true := heights_ok (by unfold seenR; rw [List.length_map, List.length_range]; omega) fun v hv' => by
    obtain ⟨k, _, rfl⟩ := List.mem_map.mp hv'
    exact seen_rng m0 hv
  have h2 : heightsOk ((seenC c (cellsOf cs) pl).map D.int) = true := heights_ok (by unfold seenC; rw [List.length_map, List.length_range]; omega) fun v hv' => by
    obtain ⟨k, _, rfl⟩ := List.mem_map.mp hv'
    exact seen_rng m0 hv
  have eV : ∀ h, callM E.P (E.c (n + 5)) "Views" [.d (.lst ((seenR r (cellsOf cs) pl).map D.int)), .d (.lst ((seenC c (cellsOf cs) pl).map D.int))] h = .ok (.new (iniV ((seenR r (cellsOf cs) pl).map D.int) ((seenC c (cellsOf cs) pl).map D.int))) h := fun h => sp_Views h1 h2 ints_tyd ints_tyd
  simp! [eV]
  show finish false h.length (.new (iniV ((seenR r (cellsOf cs) pl).map D.int) ((seenC c (cellsOf cs) pl).map D.int))) h = _
  show Out.ok _ (h.take h.length) = _
  rw [List.take_length]
/-! ### == of views -/
theorem sp_Views_eq {a b a' b' : List Int} : E.c (n + 1) "Views" "__eq__" [.d (viewsD (a.map D.int) (b.map D.int)), .d (viewsD (a'.map D.int) (b'.map D.int))] h = .ok (.w (.d (.bl (decide (a = a') && decide (b = b'))))) h := by
  have t1 : isiD (.own "Views") (viewsD (a'.map D.int) (b'.map D.int)) = true := by unfold viewsD; simp only [isiD, decide_true]
  rw [run_Views_DeqD]
  simp! [F_Views_DeqD, vw_tyd, t1, vw_side, vw_front, eq_ints]
  by_cases e : a = a'
  · simp! [e, decide_true, Bool.true_and]
  · simp! [e, decide_false, Bool.false_and]
theorem eq_views {a b a' b' : List Int} : eqM E.P (E.c (n + 1)) (.d (viewsD (a.map D.int) (b.map D.int))) (.d (viewsD (a'.map D.int) (b'.map D.int))) h = .ok (decide (a = a') && decide (b = b')) h := by
  have q2 : E.P.isFn "Views" "__eq__" = true := is_Views_DeqD
  have q3 : (W.d (viewsD (a'.map D.int) (b'.map D.int))).typed E.P h = true := (rfl)
  have := eq_own (P := E.P) (cl := E.c (n + 1)) (h := h) (c := "Views") (fs := [("side", .lst (a.map D.int)), ("front", .lst (b.map D.int))]) (y := .d (viewsD (a'.map D.int) (b'.map D.int))) (by rw [cls_Views]; rfl) q2 q3
  unfold viewsD at this ⊢
  rw [this]
  have e := sp_Views_eq (n := n) (h := h) (a := a) (b := b) (a' := a') (b' := b')
  unfold viewsD at e
  rw [e]
  rfl
end
end Pe.Pv
set_option maxHeartbeats 4000000
namespace Pe.Pv
open PySem Pw
section
variable {n : Nat} {h : Cells} {a b most ht : Int}
def mxL (l : List Int) : Int := match l ++ [0] with
  | [] => 0
  | i :: r => maxI i r
theorem mxL_rng {l : List Int} {m : Int} (hm : 0 ≤ m) (hl : ∀ x ∈ l, 0 ≤ x ∧ x ≤ m) : 0 ≤ mxL l ∧ mxL l ≤ m := by
  unfold mxL
  cases e : l ++ [0] with
  | nil => exact ⟨Int.le_refl _, hm⟩
  | cons i r =>
    have hall : ∀ x ∈ i :: r, 0 ≤ x ∧ x ≤ m := fun x hx => by
      rw [← e] at hx
      rcases List.mem_append.mp hx with z | z
      · exact hl x z
      · rw [List.mem_singleton.mp z]; exact ⟨Int.le_refl _, hm⟩
    simp only []
    have h0 := hall i List.mem_cons_self
    refine ⟨Int.le_trans h0.1 (maxI_ge r i).1, ?_⟩
    rcases maxI_mem r i with z | z
    · rw [z]; exact h0.2
    · exact (hall _ (List.mem_cons_of_mem _ z)).2
theorem mxL_eq {l : List Int} (hl : ∀ x ∈ l, 0 ≤ x) : mxL l = maxI 0 l := by
  unfold mxL
  cases l with
  | nil => rfl
  | cons i r =>
    show maxI i (r ++ [0]) = maxI 0 (i :: r)
    have h0 := hl i List.mem_cons_self
    apply Int.le_antisymm
    · rcases maxI_mem (r ++ [0]) i with z | z
      · rw [z]; exact (maxI_ge (i :: r) 0).2 _ List.mem_cons_self
      · rcases List.mem_append.mp z with z | z
        · exact (maxI_ge (i :: r) 0).2 _ (List.mem_cons_of_mem _ z)
        · rw [List.mem_singleton.mp z]; exact (maxI_ge (i :: r) 0).1
    · rcases maxI_mem (i :: r) 0 with z | z
      · rw [z]; exact Int.le_trans h0 (maxI_ge (r ++ [0]) i).1
      · rcases List.mem_cons.mp z with z | z
        · rw [z]; exact (maxI_ge (r ++ [0]) i).1
        · exact (maxI_ge (r ++ [0]) i).2 _ (List.mem_append_left _ z)
theorem sp_law_max {l : List Int} (hl : l.length ≤ 1000) : E.c (n + 1) "" "_law_max" [.d (.lst (l.map D.int))] h = .ok (.w (.d (.int (mxL l)))) h := by
  have e : asInts (l.map D.int ++ [.int 0]) = some (l ++ [0]) := by
    have := asInts_map (fun i : Int => i) (l ++ [0])
    simpa using this
  have sz : (l.map D.int).length + [D.int 0].length ≤ sizeLine := by rw [List.length_map]; exact Nat.le_trans (Nat.add_le_add_right hl 1) (by decide)
  rw [run__law_max]
  unfold mxL
  cases q : l ++ [0] with
  | nil => simp at q
  | cons i r =>
    rw [q] at e
    simp! [F__law_max, add_ll sz, max_l e]
/-- what the drawn pile is -/
def PileOk (r c ht : Int) (pl : List (Cell2 × Int)) : Prop := (keys2 pl).Nodup ∧ ∀ q ∈ pl, ((0 ≤ q.1.1 ∧ q.1.1 < r) ∧ 0 ≤ q.1.2 ∧ q.1.2 < c) ∧ 0 ≤ q.2 ∧ q.2 ≤ ht
theorem PileOk.len {r c ht : Int} {pl : List (Cell2 × Int)} (h : PileOk r c ht pl) (hr : r ≤ 30) (hc : c ≤ 30) : pl.length ≤ 900 := by
  have := nodup_len (l := keys2 pl) (m := grid r c) h.1 fun p hp => by
    obtain ⟨q, hq, rfl⟩ := List.mem_map.mp hp
    exact mem_grid (h.2 q hq).1
  unfold keys2 at this
  rw [List.length_map] at this
  exact Nat.le_trans this (grid_len hr hc)
theorem PileOk.put {r c ht : Int} {pl : List (Cell2 × Int)} (h : PileOk r c ht pl) {p : Cell2} {v : Int} (hp : (0 ≤ p.1 ∧ p.1 < r) ∧ 0 ≤ p.2 ∧ p.2 < c) (hv : 0 ≤ v ∧ v ≤ ht) : PileOk r c ht (aput2 pl p v) := by
  refine ⟨nodup_aput2 h.1, fun q hq => ?_⟩
  rcases mem_aput2 hq with z | z
  · exact h.2 q z
  · rw [z]; exact ⟨hp, hv⟩
/-- the bounds drawn for it -/
def LimOk (pl : List (Cell2 × Int)) (ht : Int) (lim : List (Cell2 × Bnd)) : Prop := (keys2 lim).Nodup ∧ ∀ q ∈ lim, q.1 ∈ keys2 pl ∧ 0 ≤ q.2.1 ∧ q.2.1 ≤ ht ∧ ∀ u, q.2.2 = some u → q.2.1 ≤ u ∧ u ≤ ht + 1
theorem LimOk.put {pl : List (Cell2 × Int)} {ht : Int} {lim : List (Cell2 × Bnd)} (h : LimOk pl ht lim) {p : Cell2} {v : Bnd} (hp : p ∈ keys2 pl) (hv : 0 ≤ v.1 ∧ v.1 ≤ ht ∧ ∀ u, v.2 = some u → v.1 ≤ u ∧ u ≤ ht + 1) : LimOk pl ht (aput2 lim p v) := by
  refine ⟨nodup_aput2 h.1, fun q hq => ?_⟩
  rcases mem_aput2 hq with z | z
  · exact h.2 q z
  · rw [z]; exact ⟨hp, hv⟩
theorem LimOk.len {pl : List (Cell2 × Int)} {ht : Int} {lim : List (Cell2 × Bnd)} (h : LimOk pl ht lim) : lim.length ≤ pl.length := by
  have := nodup_len (l := keys2 lim) (m := keys2 pl) h.1 fun p hp => by
    obtain ⟨q, hq, rfl⟩ := List.mem_map.mp hp
    exact (h.2 q hq).1
  unfold keys2 at this
  rwa [List.length_map, List.length_map] at this
/-- what is drawn -/
structure PartsOk (most ht : Int) (cs : List Cell2) (hs gs : List Int) (lim : List (Cell2 × Bnd)) : Prop where
  hr : 1 ≤ hs.length ∧ (hs.length : Int) ≤ most
  hc : 1 ≤ gs.length ∧ (gs.length : Int) ≤ most
  hv : ∀ v ∈ hs, 0 ≤ v ∧ v ≤ ht + 1
  gv : ∀ v ∈ gs, 0 ≤ v ∧ v ≤ ht + 1
  srt : ∃ l, cs = sortC l
  nd : cs.Nodup
  ok : okC hs.length gs.length cs
  ln : (keys2 lim).Nodup
  lk : ∀ q ∈ lim, q.1 ∈ cs ∧ 0 ≤ q.2.1 ∧ q.2.1 ≤ ht ∧ ∀ u, q.2.2 = some u → q.2.1 ≤ u ∧ u ≤ ht + 1
theorem hAt_mem : ∀ {pl : List (Cell2 × Int)} {p : Cell2}, p ∈ keys2 pl → (p, hAt pl p) ∈ pl ∧ aget pl p = some (hAt pl p)
  | [], p, h => by cases h
  | (q, v) :: r, p, h => by
    by_cases e : q = p
    · subst e
      have : hAt ((q, v) :: r) q = v := by unfold hAt aget; rw [if_pos rfl]; rfl
      rw [this]
      exact ⟨List.mem_cons_self, by unfold aget; rw [if_pos rfl]⟩
    · have hp : p ∈ keys2 r := by
        rcases List.mem_cons.mp (show p ∈ q :: keys2 r from h) with z | z
        · exact absurd z.symm e
        · exact z
      have e2 : aget ((q, v) :: r) p = aget r p := by conv => lhs; unfold aget; rw [if_neg e]
      have e3 : hAt ((q, v) :: r) p = hAt r p := by unfold hAt; rw [e2]
      rw [e3, e2]
      obtain ⟨a, b⟩ := hAt_mem hp
      exact ⟨List.mem_cons_of_mem _ a, b⟩
theorem set_rng {l : List Int} {k : Nat} {v m : Int} (hl : ∀ x ∈ l, 0 ≤ x ∧ x ≤ m) (hv : 0 ≤ v ∧ v ≤ m) : ∀ x ∈ l.set k v, 0 ≤ x ∧ x ≤ m := fun x hx => by
  rcases List.mem_or_eq_of_mem_set hx with z | z
  · exact hl x z
  · rw [z]; exact hv
set_option maxHeartbeats 0 in
theorem sp_drawn (hm : 1 ≤ most ∧ most ≤ 30) (hh : 0 ≤ ht ∧ ht < 1000000) : (E.c (n + 2) "" "_law_drawn" [.r 0, .d (.int most), .d (.int ht)] [⟨.lst [.int a, .int b], false⟩]).Wp fun v h => Strm h ∧ ∃ cs hs gs lim, v = .new (.lst [.lst (cs.map pD), .lst (hs.map .int), .lst (gs.map .int), .dic (kv bndD lim)]) ∧ PartsOk most ht cs hs gs lim := by
  rw [run__law_drawn]
  have m1 : (0 : Int) < most := by omega
  have m2 : most < 1073741824 := by omega
  obtain ⟨v1, v2⟩ := drawn a b most m1
  obtain ⟨v3, v4⟩ := drawn (drawA a most) (drawB a b) most m1
  simp! [F__law_drawn, draw0, m1, m2]
  generalize drawV a b most = w1 at *
  generalize drawV (drawA a most) (drawB a b) most = w2 at *
  obtain ⟨r, er, hr⟩ : ∃ r, r = 1 + w1 ∧ 1 ≤ r ∧ r ≤ most := ⟨_, rfl, by omega⟩
  obtain ⟨c, ec, hc⟩ : ∃ c, c = 1 + w2 ∧ 1 ≤ c ∧ c ≤ most := ⟨_, rfl, by omega⟩
  rw [← er, ← ec]
  simp! [range_i (show -(2 ^ 62) ≤ r ∧ r < 2 ^ 62 by omega)]
  refine next_for (T := fun o => (fin false 1 o).Wp _) (fun ρ' h' => (∃ a b pl, h' = [⟨.lst [.int a, .int b], false⟩, ⟨.dic (kv D.int pl), false⟩, ⟨.dic [], false⟩] ∧ PileOk r c ht pl) ∧ ∃ a7 a8 a9 a10 a11 a12, ρ' = [some (.r 0), some (.d (.int most)), some (.d (.int ht)), some (.d (.int r)), some (.d (.int c)), some (.r 1), some (.r 2), a7, a8, a9, a10, a11, a12]) ⟨⟨_, _, [], rfl, by unfold keys2; exact List.nodup_nil, fun q hq => by cases hq⟩, _, _, _, _, _, _, rfl⟩ ?_ ?_
  · rintro x hx ρ' h' ⟨⟨a, b, pl, rfl, hpl⟩, a7, a8, a9, a10, a11, a12, rfl⟩
    obtain ⟨i, rfl, i0, i1⟩ := mem_rangeD hx
    simp! [range_i (show -(2 ^ 62) ≤ c ∧ c < 2 ^ 62 by omega)]
    refine next_for (fun ρ' h' => (∃ a b pl, h' = [⟨.lst [.int a, .int b], false⟩, ⟨.dic (kv D.int pl), false⟩, ⟨.dic [], false⟩] ∧ PileOk r c ht pl) ∧ ∃ a8 a9 a10 a11 a12, ρ' = [some (.r 0), some (.d (.int most)), some (.d (.int ht)), some (.d (.int r)), some (.d (.int c)), some (.r 1), some (.r 2), some (.d (.int i)), a8, a9, a10, a11, a12]) ⟨⟨_, _, pl, rfl, hpl⟩, _, _, _, _, _, rfl⟩ ?_ ?_
    · rintro x hx ρ' h' ⟨⟨a, b, pl, rfl, hpl⟩, a8, a9, a10, a11, a12, rfl⟩
      obtain ⟨j, rfl, j0, j1⟩ := mem_rangeD hx
      simp! [draw0]
      by_cases e : 0 < drawV a b 5
      · have t1 : (0 : Int) < ht + 1 := by omega
        have t2 : ht + 1 < 1073741824 := by omega
        obtain ⟨d1, d2⟩ := drawn (drawA a 5) (drawB a b) (ht + 1) t1
        have sz := hpl.len (by omega) (by omega)
        have ep : ∀ v h, putL 1 (some ⟨.dic (kv D.int pl), false⟩) (.tup [.int i, .int j]) (.int v) h = .ok () (h.set 1 ⟨.dic (kv D.int (aput2 pl (i, j) v)), false⟩) := fun v h => put_kv (f := D.int) (p := (i, j)) rfl (Nat.lt_of_le_of_lt sz (by decide))
        simp! [e, decide_true, draw0, t1, t2, ep]
        exact ⟨⟨_, _, _, rfl, hpl.put ⟨⟨i0, i1⟩, j0, j1⟩ ⟨d1, by omega⟩⟩, _, _, _, _, _, rfl⟩
      · simp! [e, decide_false]
        exact ⟨⟨_, _, pl, rfl, hpl⟩, _, _, _, _, _, rfl⟩
    · rintro ρ' h' ⟨⟨a, b, pl, rfl, hpl⟩, a8, a9, a10, a11, a12, rfl⟩
      simp! []
      exact ⟨⟨_, _, pl, rfl, hpl⟩, _, _, _, _, _, _, rfl⟩
  rintro ρ' h' ⟨⟨a, b, pl, rfl, hpl⟩, a7, a8, a9, a10, a11, a12, rfl⟩
  have sz := hpl.len (by omega) (by omega)
  have kl : (keys2 pl).length ≤ 900 := by unfold keys2; rw [List.length_map]; exact sz
  have hAr : ∀ p ∈ keys2 pl, 0 ≤ hAt pl p ∧ hAt pl p ≤ ht := fun p hp => (hpl.2 _ (hAt_mem hp).1).2
  have hne : ∀ m : Int, 1 ≤ m → List.range m.toNat ≠ [] := fun m hm z => by
    have := congrArg List.length z
    rw [List.length_range, List.length_nil] at this
    omega
  have hmx : ∀ (f : Cell2 → Bool) h, E.c (n + 1) "" "_law_max" [.d (.lst (((keys2 pl).filter f).map fun p => .int (hAt pl p)))] h = .ok (.w (.d (.int (mxL (((keys2 pl).filter f).map (hAt pl)))))) h := fun f h => by
    have e : (((keys2 pl).filter f).map fun p => D.int (hAt pl p)) = (((keys2 pl).filter f).map (hAt pl)).map D.int := by rw [List.map_map]; rfl
    rw [e]
    exact sp_law_max (by rw [List.length_map]; have := List.length_filter_le f (keys2 pl); omega)
  simp! [range_i (show -(2 ^ 62) ≤ r ∧ r < 2 ^ 62 by omega)]
  unfold rangeD
  rw [lcGo_two (h1 := [⟨.lst [.int a, .int b], false⟩, ⟨.gone (.dic (kv D.int pl)), false⟩, ⟨.dic [], false⟩]) (fun k : Nat => D.int k) (fun k => .int (mxL (((keys2 pl).filter fun p => decide (p.1 = (k : Int))).map (hAt pl)))) (hne r hr.1) (by rw [List.length_range]; exact le_size (by omega)) (fun k hk => ?_) (fun k hk => ?_)]
  rotate_left
  · simp! [kv_fst]
    rw [lcGo_mapF pD (fun p => decide (p.1 = (k : Int))) (fun p => .int (hAt pl p)) (keys2 pl) (le_sz (by omega)) (fun p hp => by simp! [sub_kv (hAt_mem hp).2]; by_cases e : p.1 = (k : Int) <;> simp! [e, decide_true, decide_false, sub_kv (hAt_mem hp).2])]
    simp! [hmx]
  · simp! [kv_fst]
    rw [lcGo_mapF pD (fun p => decide (p.1 = (k : Int))) (fun p => .int (hAt pl p)) (keys2 pl) (le_sz (by omega)) (fun p hp => by simp! [sub_kv (hAt_mem hp).2]; by_cases e : p.1 = (k : Int) <;> simp! [e, decide_true, decide_false, sub_kv (hAt_mem hp).2])]
    simp! [hmx]
  simp! [range_i (show -(2 ^ 62) ≤ c ∧ c < 2 ^ 62 by omega)]
  unfold rangeD
  rw [lcGo_mapT (fun k : Nat => D.int k) (fun k => .int (mxL (((keys2 pl).filter fun p => decide (p.2 = (k : Int))).map (hAt pl)))) (List.range c.toNat) (by rw [List.length_range]; exact le_size (by omega)) (fun k hk => ?_)]
  rotate_left
  · simp! [kv_fst]
    rw [lcGo_mapF pD (fun p => decide (p.2 = (k : Int))) (fun p => .int (hAt pl p)) (keys2 pl) (le_sz (by omega)) (fun p hp => by simp! [sub_kv (hAt_mem hp).2]; by_cases e : p.2 = (k : Int) <;> simp! [e, decide_true, decide_false, sub_kv (hAt_mem hp).2])]
    simp! [hmx]
  have rng : ∀ f : Cell2 → Bool, 0 ≤ mxL (((keys2 pl).filter f).map (hAt pl)) ∧ mxL (((keys2 pl).filter f).map (hAt pl)) ≤ ht + 1 := fun f => by
    have := mxL_rng hh.1 (l := ((keys2 pl).filter f).map (hAt pl)) fun x hx => by
      obtain ⟨p, hp, rfl⟩ := List.mem_map.mp hx
      exact hAr p (List.mem_filter.mp hp).1
    omega
  obtain ⟨hs, ehs, hsl, hsv⟩ : ∃ hs : List Int, (List.range r.toNat).map (fun k : Nat => D.int (mxL (((keys2 pl).filter fun p => decide (p.1 = (k : Int))).map (hAt pl)))) = hs.map D.int ∧ (hs.length : Int) = r ∧ ∀ v ∈ hs, 0 ≤ v ∧ v ≤ ht + 1 := ⟨(List.range r.toNat).map fun k : Nat => mxL (((keys2 pl).filter fun p => decide (p.1 = (k : Int))).map (hAt pl)), by rw [List.map_map]; rfl, by rw [List.length_map, List.length_range]; omega, fun v hv => by
    obtain ⟨k, _, rfl⟩ := List.mem_map.mp hv
    exact rng _⟩
  obtain ⟨gs, egs, gsl, gsv⟩ : ∃ gs : List Int, (List.range c.toNat).map (fun k : Nat => D.int (mxL (((keys2 pl).filter fun p => decide (p.2 = (k : Int))).map (hAt pl)))) = gs.map D.int ∧ (gs.length : Int) = c ∧ ∀ v ∈ gs, 0 ≤ v ∧ v ≤ ht + 1 := ⟨(List.range c.toNat).map fun k : Nat => mxL (((keys2 pl).filter fun p => decide (p.2 = (k : Int))).map (hAt pl)), by rw [List.map_map]; rfl, by rw [List.length_map, List.length_range]; omega, fun v hv => by
    obtain ⟨k, _, rfl⟩ := List.mem_map.mp hv
    exact rng _⟩
  rw [ehs, egs]
  simp! [kv_fst]
  refine next_for (T := fun o => (fin false 1 o).Wp _) (fun ρ' h' => (∃ a b lim, h' = [⟨.lst [.int a, .int b], false⟩, ⟨.gone (.dic (kv D.int pl)), false⟩, ⟨.dic (kv bndD lim), false⟩, ⟨.lst (hs.map D.int), false⟩, ⟨.lst (gs.map D.int), false⟩] ∧ LimOk pl ht lim) ∧ ∃ a7 a8 a10 a12, ρ' = [some (.r 0), some (.d (.int most)), some (.d (.int ht)), some (.d (.int r)), some (.d (.int c)), some (.r 1), some (.r 2), a7, a8, some (.r 3), a10, some (.r 4), a12]) ⟨⟨_, _, [], rfl, by unfold keys2; exact List.nodup_nil, fun q hq => by cases hq⟩, _, _, _, _, rfl⟩ ?_ ?_
  · rintro x hx ρ' h' ⟨⟨a, b, lim, rfl, hlim⟩, a7, a8, a10, a12, rfl⟩
    obtain ⟨p, hp, rfl⟩ := List.mem_map.mp hx
    have hv := hAr p hp
    have t1 : (0 : Int) < hAt pl p + 1 := by omega
    have t2 : hAt pl p + 1 < 1073741824 := by omega
    have ep0 : ∀ lim, LimOk pl ht lim → ∀ (w : Int) h, putL 2 (some ⟨.dic (kv bndD lim), false⟩) (pD p) (.tup [.int w, .non]) h = .ok () (h.set 2 ⟨.dic (kv bndD (aput2 lim p (w, none))), false⟩) := fun lim hl w h => put_kv (f := bndD) (p := p) (v := (w, none)) rfl (Nat.lt_of_le_of_lt (Nat.le_trans hl.len sz) (by decide))
    have ep1 : ∀ lim, LimOk pl ht lim → ∀ (w u : Int) h, putL 2 (some ⟨.dic (kv bndD lim), false⟩) (pD p) (.tup [.int w, .int u]) h = .ok () (h.set 2 ⟨.dic (kv bndD (aput2 lim p (w, some u))), false⟩) := fun lim hl w u h => put_kv (f := bndD) (p := p) (v := (w, some u)) rfl (Nat.lt_of_le_of_lt (Nat.le_trans hl.len sz) (by decide))
    have lk0 : ∀ lim, LimOk pl ht lim → ∀ (w : Int), 0 ≤ w → w < hAt pl p + 1 → LimOk pl ht (aput2 lim p (w, none)) := fun lim hl w h1 h2 => hl.put hp ⟨h1, by show w ≤ ht; omega, fun u e => by cases e⟩
    have lk1 : ∀ lim, LimOk pl ht lim → ∀ (w u : Int), 0 ≤ w → w < hAt pl p + 1 → 0 ≤ u → u < 2 → LimOk pl ht (aput2 lim p (w, some (hAt pl p + u))) := fun lim hl w u h1 h2 h3 h4 => hl.put hp ⟨h1, by show w ≤ ht; omega, fun u' e => by cases e; show w ≤ hAt pl p + u ∧ hAt pl p + u ≤ ht + 1; omega⟩
    simp! [draw0]
    obtain ⟨d1, d2⟩ := drawn a b 6 (by decide)
    generalize drawV a b 6 = w at *
    obtain ⟨d3, d4⟩ := drawn (drawA a 6) (drawB a b) (hAt pl p + 1) t1
    by_cases e0 : w = 0
    · have e1' : ¬ (0 : Int) = 1 := by decide
      simp! [e0, e1', decide_true, decide_false, sub_kv (hAt_mem hp).2, draw0, t1, t2, ep0 _ hlim]
      exact ⟨⟨_, _, _, rfl, lk0 _ hlim _ d3 d4⟩, _, _, _, _, rfl⟩
    · by_cases ez : hAt pl p = 0
      · by_cases e1 : w = 1
        · obtain ⟨d5, d6⟩ := drawn (drawA (drawA a 6) (hAt pl p + 1)) (drawB (drawA a 6) (drawB a b)) (hAt pl p + 1) t1
          obtain ⟨d7, d8⟩ := drawn (drawA (drawA (drawA a 6) (hAt pl p + 1)) (hAt pl p + 1)) (drawB (drawA (drawA a 6) (hAt pl p + 1)) (drawB (drawA a 6) (drawB a b))) 2 (by decide)
          have hl2 := lk0 _ hlim _ d3 d4
          have z1 : decide (w = 0) = false := decide_eq_false e0
          have z2 : decide (w = 1) = true := decide_eq_true e1
          have z3 : decide (hAt pl p = 0) = true := decide_eq_true ez
          simp! [z1, z2, z3, sub_kv (hAt_mem hp).2, draw0, t1, t2, ep0 _ hlim, ep1 _ hl2]
          exact ⟨⟨_, _, _, rfl, lk1 _ hl2 _ _ d5 d6 d7 d8⟩, _, _, _, _, rfl⟩
        · have z1 : decide (w = 0) = false := decide_eq_false e0
          have z2 : decide (w = 1) = false := decide_eq_false e1
          have z3 : decide (hAt pl p = 0) = true := decide_eq_true ez
          simp! [z1, z2, z3, sub_kv (hAt_mem hp).2, draw0, t1, t2, ep0 _ hlim]
          exact ⟨⟨_, _, _, rfl, lk0 _ hlim _ d3 d4⟩, _, _, _, _, rfl⟩
      · have z1 : decide (w = 0) = false := decide_eq_false e0
        have z3 : decide (hAt pl p = 0) = false := decide_eq_false ez
        by_cases e1 : w = 1
        · have z2 : decide (w = 1) = true := decide_eq_true e1
          obtain ⟨d5, d6⟩ := drawn (drawA (drawA a 6) (hAt pl p + 1)) (drawB (drawA a 6) (drawB a b)) 2 (by decide)
          simp! [z1, z2, z3, sub_kv (hAt_mem hp).2, draw0, t1, t2, ep1 _ hlim]
          exact ⟨⟨_, _, _, rfl, lk1 _ hlim _ _ d3 d4 d5 d6⟩, _, _, _, _, rfl⟩
        · have z2 : decide (w = 1) = false := decide_eq_false e1
          simp! [z1, z2, z3, sub_kv (hAt_mem hp).2]
          exact ⟨⟨_, _, _, rfl, hlim⟩, _, _, _, _, rfl⟩
  rintro ρ' h' ⟨⟨a, b, lim, rfl, hlim⟩, a7, a8, a10, a12, rfl⟩
  have fin : ∀ (a b : Int) (hs gs : List Int), (hs.length : Int) = r → (∀ v ∈ hs, 0 ≤ v ∧ v ≤ ht + 1) → (gs.length : Int) = c → (∀ v ∈ gs, 0 ≤ v ∧ v ≤ ht + 1) → Strm [⟨.lst [.int a, .int b], false⟩] ∧ ∃ cs hs' gs' lim', Val.new (.lst [.lst ((sortC (keys2 pl)).map pD), .lst (hs.map D.int), .lst (gs.map D.int), .dic (kv bndD lim)]) = .new (.lst [.lst (cs.map pD), .lst (hs'.map .int), .lst (gs'.map .int), .dic (kv bndD lim')]) ∧ PartsOk most ht cs hs' gs' lim' := fun a b hs gs h1 h2 h3 h4 =>
    ⟨⟨_, _, rfl⟩, _, _, _, _, rfl, ⟨⟨by omega, by omega⟩, ⟨by omega, by omega⟩, h2, h4, ⟨_, rfl⟩, by unfold sortC; exact (List.mergeSort_perm _ _).nodup_iff.mpr hpl.1, fun p hp => by
      obtain ⟨q, hq, rfl⟩ := List.mem_map.mp (mem_sortC.mp hp)
      rw [h1, h3]
      exact (hpl.2 q hq).1, hlim.1, fun q hq => by
      obtain ⟨k1, k2⟩ := hlim.2 q hq
      exact ⟨mem_sortC.mpr k1, k2⟩⟩⟩
  have ht2 : (0 : Int) < ht + 2 := by omega
  have ht3 : ht + 2 < 1073741824 := by omega
  have r1 : (0 : Int) < r := by omega
  have r2 : r < 1073741824 := by omega
  have c1 : (0 : Int) < c := by omega
  have c2 : c < 1073741824 := by omega
  have epl : ∀ (m : Nat) (l : List Int) (k v : Int) h, 0 ≤ k → k < l.length → putL m (some ⟨.lst (l.map D.int), false⟩) (.int k) (.int v) h = .ok () (h.set m ⟨.lst ((l.set k.toNat v).map D.int), false⟩) := fun m l k v h h0 h1 => by
    have e : ixAt (l.map D.int).length k = some k.toNat := by unfold ixAt; rw [if_pos h0, if_pos (by rw [List.length_map]; exact h1)]
    show (match (match ixAt (l.map D.int).length k with | some j => some (Ob.lst ((l.map D.int).set j (.int v))) | none => none) with | some o' => Out.ok () (h.set m ⟨o', false⟩) | none => .bad) = _
    rw [e, List.map_set]
  have last : ∀ (a b : Int) (hs : List Int) (a12 : Option W), (hs.length : Int) = r → (∀ v ∈ hs, 0 ≤ v ∧ v ≤ ht + 1) → (Pw.fin false 1 (evalSs E.P (E.c (n + 1)) E.wf (F__law_drawn.body.drop 7) [some (.r 0), some (.d (.int most)), some (.d (.int ht)), some (.d (.int r)), some (.d (.int c)), some (.r 1), some (.r 2), a7, a8, some (.r 3), a10, some (.r 4), a12] [⟨.lst [.int a, .int b], false⟩, ⟨.gone (.dic (kv D.int pl)), false⟩, ⟨.dic (kv bndD lim), false⟩, ⟨.lst (hs.map D.int), false⟩, ⟨.lst (gs.map D.int), false⟩])).Wp fun v h => Strm h ∧ ∃ cs hs gs lim, v = .new (.lst [.lst (cs.map pD), .lst (hs.map .int), .lst (gs.map .int), .dic (kv bndD lim)]) ∧ PartsOk most ht cs hs gs lim := fun a b hs a12 h1 h2 => by
    obtain ⟨d1, d2⟩ := drawn (drawA a 9) (drawB a b) (ht + 2) ht2
    obtain ⟨d3, d4⟩ := drawn (drawA (drawA a 9) (ht + 2)) (drawB (drawA a 9) (drawB a b)) c c1
    by_cases e : drawV a b 9 = 0
    · have z : decide (drawV a b 9 = 0) = true := decide_eq_true e
      simp! [F__law_drawn, List.drop_succ_cons, List.drop_zero, draw0, z, ht2, ht3, c1, c2, epl 4 gs (drawV (drawA (drawA a 9) (ht + 2)) (drawB (drawA a 9) (drawB a b)) c) (drawV (drawA a 9) (drawB a b) (ht + 2)) _ d3 (by omega), sorted_kv]
      exact fin _ _ _ _ h1 h2 (by rw [List.length_set]; exact gsl) (set_rng gsv ⟨d1, by omega⟩)
    · have z : decide (drawV a b 9 = 0) = false := decide_eq_false e
      simp! [F__law_drawn, List.drop_succ_cons, List.drop_zero, draw0, z, sorted_kv]
      exact fin _ _ _ _ h1 h2 gsl gsv
  obtain ⟨rest, er7⟩ : ∃ q, F__law_drawn.body.drop 7 = q := ⟨_, rfl⟩
  rw [er7] at last
  have e6 : F__law_drawn.body.drop 6 = (F__law_drawn.body.drop 6).take 1 ++ rest := by rw [← er7, show F__law_drawn.body.drop 7 = (F__law_drawn.body.drop 6).drop 1 by rw [List.drop_drop], List.take_append_drop]
  show (Pw.fin false 1 (evalSs E.P (E.c (n + 1)) E.wf (F__law_drawn.body.drop 6) _ _)).Wp _
  rw [e6]
  clear e6 er7
  obtain ⟨d1, d2⟩ := drawn (drawA a 5) (drawB a b) (ht + 2) ht2
  obtain ⟨d3, d4⟩ := drawn (drawA (drawA a 5) (ht + 2)) (drawB (drawA a 5) (drawB a b)) r r1
  by_cases e : drawV a b 5 = 0
  · have z : decide (drawV a b 5 = 0) = true := decide_eq_true e
    simp! [F__law_drawn, List.drop_succ_cons, List.drop_zero, List.take_succ_cons, List.take_zero, draw0, z, ht2, ht3, r1, r2, epl 3 hs (drawV (drawA (drawA a 5) (ht + 2)) (drawB (drawA a 5) (drawB a b)) r) (drawV (drawA a 5) (drawB a b) (ht + 2)) _ d3 (by omega)]
    exact last _ _ _ _ (by rw [List.length_set]; exact hsl) (set_rng hsv ⟨d1, by omega⟩)
  · have z : decide (drawV a b 5 = 0) = false := decide_eq_false e
    simp! [F__law_drawn, List.drop_succ_cons, List.drop_zero, List.take_succ_cons, List.take_zero, draw0, z]
    exact last _ _ _ _ hsl hsv
end
end Pe.Pv
set_option maxHeartbeats 4000000
namespace Pe.Pv
open PySem Pw
section
variable {n : Nat} {h : Cells} {x : D} {r c : Int} {cs : List Cell2} {p : Cell2} {hs gs : List Int} {bl lim : List (Cell2 × Bnd)} {tops : List (Cell2 × Int)}
/-! ### tasks without bounds -/
theorem sp_check_bounds0 {qs : List D} {ps : List (D × D)} : E.c (n + 1) "" "check_bounds" [.d (planD r c qs ps), .d .non] h = .ok (.w (.d .non)) h := by
  rw [run_check_bounds]
  simp! [F_check_bounds, isNon]
theorem sp_Task_init0 (hr : 1 ≤ r ∧ r ≤ 30) (hc : 1 ≤ c ∧ c ≤ 30) (h1 : (hs.length : Int) = r) (h2 : (gs.length : Int) = c) (hcs : okC r c cs) (hl : cs.length ≤ sizeLine) :
    E.c (n + 7) "Task" "__init__" [.r h.length, .d (planC r c cs), .d (viewsD (hs.map .int) (gs.map .int)), .d .non] (h ++ [⟨.ins "Task" [], false⟩]) = .ok (.w (.d .non)) (h ++ [⟨iniT r c cs hs gs [] (topsOf cs hs gs []), false⟩]) := by
  rw [run_Task_DinitD]
  have t0 : isiD (.own "Plan") (planC r c cs) = true := by unfold planC planD; simp only [isiD, decide_true]
  have t1 : (planC r c cs).tyd E.P = true := (rfl)
  have l1 : ((hs.map D.int).length : Int) = r := by rw [List.length_map]; exact h1
  have l2 : ((gs.map D.int).length : Int) = c := by rw [List.length_map]; exact h2
  have cv : ∀ h, E.c (n + 6) "" "check_views" [.d (planC r c cs), .d (viewsD (hs.map .int) (gs.map .int))] h = .ok (.w (.d .non)) h := fun h => sp_check_views (n := n + 4) l1 l2
  have cb : ∀ h, E.c (n + 6) "" "check_bounds" [.d (planC r c cs), .d .non] h = .ok (.w (.d .non)) h := fun h => sp_check_bounds0 (n := n + 5)
  have cc : ∀ h, attrM E.P (E.c (n + 6)) (.d (planC r c cs)) "cells" h = .ok (.new (.lst ((cellsOf cs).map pD))) h := fun h => by
    unfold planC
    rw [pp_cells, sp_Plan_cells, Pw.calm_ok]
  simp! [F_Task_DinitD, t0, t1, cv, cb, gl_new, norm_new, set_new, isNon, cc]
  rw [dcGo_kvT D.int (fun p => topOf hs gs (bndAt [] p) p) (cellsOf_nodup cs) (Nat.le_trans (cellsOf_len cs) hl) (fun p hp => ?_)]
  rotate_left
  · obtain ⟨⟨b1, b2⟩, b3, b4⟩ := hcs p (mem_cellsOf.mp hp)
    simp! [norm_new, gl_new]
    rw [sp_least_limit (bl := []) (hs := hs) (gs := gs) norm_new (fun n => by simp! [gl_new]) (fun n => by simp! [gl_new]; rfl) ⟨b1, by omega⟩ ⟨b3, by omega⟩]
    simp! []
  simp! [gl_new, norm_new, set_new]
  rfl
theorem sp_Task0 (hr : 1 ≤ r ∧ r ≤ 30) (hc : 1 ≤ c ∧ c ≤ 30) (h1 : (hs.length : Int) = r) (h2 : (gs.length : Int) = c) (hcs : okC r c cs) (hl : cs.length ≤ sizeLine) :
    makeK E.P (E.c (n + 7)) "Task" [.d (planC r c cs), .d (viewsD (hs.map .int) (gs.map .int)), .d .non] h = .ok (.new (iniT r c cs hs gs [] (topsOf cs hs gs []))) h := by
  have e : makeK E.P (E.c (n + 7)) "Task" [.d (planC r c cs), .d (viewsD (hs.map .int) (gs.map .int)), .d .non] h = (E.c (n + 7) "Task" "__init__" (.r h.length :: [.d (planC r c cs), .d (viewsD (hs.map .int) (gs.map .int)), .d .non]) (h ++ [⟨.ins "Task" [], false⟩])).bind fun v h' => newM h.length v h' := by
    unfold makeK
    rw [cls_Task]
    rfl
  rw [e, sp_Task_init0 hr hc h1 h2 hcs hl]
  exact newM_ok
theorem toD_iniT {lim : List (Cell2 × Bnd)} {tops : List (Cell2 × Int)} : (Out.ok (.new (iniT r c cs hs gs lim tops)) h).toD = .ok (taskD r c cs hs gs lim tops) h := (rfl)
/-! ### bounds in the task, bounds as given -/
theorem aget_none {α : Type} : ∀ {l : List (Cell2 × α)} {p : Cell2}, p ∉ keys2 l → aget l p = none
  | [], _, _ => rfl
  | (q, v) :: r, p, h => by
    have h' : p ∉ q :: keys2 r := h
    rw [List.mem_cons, not_or] at h'
    have : aget ((q, v) :: r) p = if q = p then some v else aget r p := rfl
    rw [this, if_neg (fun e => h'.1 e.symm), aget_none h'.2]
theorem bndAt_lim (bl : List (Cell2 × Bnd)) (p : Cell2) : bndAt (limOf bl) p = bndAt bl p := by
  show (aget (((sortC (keys2 bl)).filter fun p => !decide (bndAt bl p = (1, none))).map fun p => (p, bndAt bl p)) p).getD (1, none) = _
  rw [aget_map]
  by_cases e : p ∈ (sortC (keys2 bl)).filter fun p => !decide (bndAt bl p = (1, none))
  · rw [if_pos e]; rfl
  · rw [if_neg e]
    rw [List.mem_filter, not_and] at e
    by_cases hk : p ∈ sortC (keys2 bl)
    · have := e hk
      by_cases z : bndAt bl p = (1, none)
      · rw [z]; rfl
      · rw [decide_eq_false z] at this; exact absurd rfl this
    · have : aget bl p = none := aget_none fun z => hk (mem_sortC.mpr z)
      unfold bndAt
      rw [this]
      try rfl
theorem topOf_le {b : Bnd} (p1 : 0 ≤ p.1 ∧ p.1 < hs.length) : topOf hs gs b p ≤ hs.getD p.1.toNat 0 := by
  obtain ⟨lo, up⟩ := b
  unfold topOf
  cases up with
  | none => exact (minI_le _ _).1
  | some u => exact (minI_le _ _).1
theorem getD_mem {l : List Int} {k : Nat} (hk : k < l.length) : l.getD k 0 ∈ l := by
  rw [List.getD_eq_getElem?_getD, List.getElem?_eq_getElem hk]
  exact List.getElem_mem hk
end
end Pe.Pv
set_option maxHeartbeats 4000000
namespace Pe.Pv
open PySem Pw
section
variable {n : Nat} {h : Cells} {x : D} {r c : Int} {cs : List Cell2} {p : Cell2} {hs gs : List Int} {lim bl : List (Cell2 × Bnd)} {tops : List (Cell2 × Int)} {pl : List (Cell2 × Int)}
/-! ### cells of any kind -/
def isCell (r c : Int) (cs : List Cell2) : D → Bool
  | .tup [.int i, .int j] => placeOf r c (.tup [.int i, .int j]) && decide ((i, j) ∈ cellsOf cs)
  | _ => false
theorem placeOf_ints (e : placeOf r c x = true) : ∃ i j, x = .tup [.int i, .int j] := by
  unfold placeOf at e
  split at e
  · rename_i a b
    rw [Bool.and_eq_true] at e
    obtain ⟨i, rfl, _⟩ := isNumber_int e.1
    obtain ⟨j, rfl, _⟩ := isNumber_int e.2
    exact ⟨i, j, rfl⟩
  · cases e
theorem isCell_no (e : placeOf r c x = false) : isCell r c cs x = false := by
  unfold isCell
  split
  · rw [e]; rfl
  · rfl
theorem sp_is_cellX (q : tyd2 E.P x = true) : E.c (n + 4) "Plan" "is_cell" [.d (planC r c cs), .d x] h = .ok (.w (.d (.bl (isCell r c cs x)))) h := by
  rw [run_Plan_is_cell]
  unfold planC
  simp! [F_Plan_is_cell, ow_is_place, sp_is_place (w := .d (planD r c ((cellsOf cs).map pD) (kc (.bl true) (cellsOf cs)))) rfl (fun n => pl_rc) (fun n => pl_cc) (x := x) q]
  cases e : placeOf r c x with
  | false => simp! [isCell_no e]
  | true =>
    obtain ⟨i, j, rfl⟩ := placeOf_ints e
    have ei : inD (.tup [.int i, .int j]) (.dic (kc (.bl true) (cellsOf cs))) = some (decide ((i, j) ∈ cellsOf cs)) := in_kc (p := (i, j))
    simp! [pl_pl, ei, isCell, e, Bool.true_and]
theorem isCell_pD : isCell r c cs (pD p) = (placeOf r c (pD p) && decide (p ∈ cellsOf cs)) := rfl
theorem isCell_mem (hok : okC r c cs) (hp : p ∈ cellsOf cs) : isCell r c cs (pD p) = true := by
  rw [isCell_pD, place_ok hok (mem_cellsOf.mp hp), decide_eq_true hp]; rfl
/-! ### is_pile -/
theorem sp_Plan_len {qs : List D} {ps : List (D × D)} : E.c (n + 1) "Plan" "__len__" [.d (planD r c qs ps)] h = .ok (.w (.d (.int qs.length))) h := by
  rw [run_Plan_DlenD]
  simp! [F_Plan_DlenD, pl_oc]
theorem len_plan (hl : cs.length ≤ sizeLine) : blM E.P (E.c (n + 1)) .len [.d (planC r c cs)] h = .ok (.w (.d (.int (cellsOf cs).length))) h := by
  have q : ((E.P.cls "Plan").isSome && E.P.isFn "Plan" "__len__") = true := by rw [cls_Plan, is_Plan_DlenD]; rfl
  have e := sp_Plan_len (n := n) (h := h) (r := r) (c := c) (qs := (cellsOf cs).map pD) (ps := kc (.bl true) (cellsOf cs))
  have z : (((cellsOf cs).map pD).length : Int) < 2 ^ 63 := by
    rw [List.length_map]
    have := cellsOf_len cs
    have z : sizeLine = 16777216 := by decide
    omega
  unfold planC planD at *
  rw [len_own q, e, Pw.bind_ok]
  simp only [hid_app]
  rw [if_pos ⟨by omega, z⟩, List.length_map]
def isPileD (r c : Int) (cs : List Cell2) : D → Bool
  | .dic kvs => decide (kvs.length = (cellsOf cs).length) && kvs.all fun p => isCell r c cs p.1 && isHeight p.2
  | _ => false
/-- what is_pile may be asked -/
def candOk (P : Prog) : D → Bool
  | .dic kvs => decide (kvs.length ≤ sizeLine) && kvs.all fun p => tyd2 P p.1 && p.2.tyd P
  | x => x.tyd P
theorem candOk_tyd {P : Prog} (q : candOk P x = true) : x.tyd P = true := by
  cases x <;> first | rfl | exact q
theorem sp_is_pile (hl : cs.length ≤ sizeLine) (q : candOk E.P x = true) : E.c (n + 5) "" "is_pile" [.d (planC r c cs), .d x] h = .ok (.w (.d (.bl (isPileD r c cs x)))) h := by
  rw [run_is_pile]
  have t0 := candOk_tyd q
  cases x with
  | dic kvs =>
    have q' : decide (kvs.length ≤ sizeLine) = true ∧ (kvs.all fun p => tyd2 E.P p.1 && p.2.tyd E.P) = true := Bool.and_eq_true_iff.mp q
    have hz := of_decide_eq_true q'.1
    have hq : ∀ p ∈ kvs, tyd2 E.P p.1 = true ∧ p.2.tyd E.P = true := fun p hp => Bool.and_eq_true_iff.mp (List.all_eq_true.mp q'.2 p hp)
    simp! [F_is_pile, isiD, len_plan hl]
    by_cases e : (kvs.length : Int) = ((cellsOf cs).length : Int)
    · have e' : kvs.length = (cellsOf cs).length := by omega
      simp! [e, decide_true]
      rw [lcGo_mapT (fun p : D × D => D.tup [p.1, p.2]) (fun p => .bl (isCell r c cs p.1 && isHeight p.2)) kvs hz (fun p hp => ?_)]
      rotate_left
      · obtain ⟨h1, h2⟩ := hq p hp
        simp! [ow_is_cellC, sp_is_cellX h1]
        cases e2 : isCell r c cs p.1 with
        | false => simp! [Bool.false_and]
        | true => simp! [sp_is_height h2, Bool.true_and]
      simp! [all_l (asBools_map (fun p : D × D => isCell r c cs p.1 && isHeight p.2) kvs), isPileD, e', decide_true, Bool.true_and, List.all_map]
      rfl
    · have e' : ¬ kvs.length = (cellsOf cs).length := by omega
      simp! [e, decide_false, isPileD, e', Bool.false_and]
  | _ => simp! [F_is_pile, isi_ok t0, isiD, isPileD]
/-! ### within bounds -/
def withinB (b : Bnd) (v : Int) : Bool := decide (b.1 ≤ v) && (match b.2 with
  | none => true
  | some u => decide (v ≤ u))
theorem sp_is_within {v : Int} (hp : placeOf r c (pD p) = true) (hm : p ∈ cellsOf cs) : E.c (n + 7) "" "is_within" [.d (taskD r c cs hs gs lim tops), .d (pD p), .d (.int v)] h = .ok (.w (.d (.bl (withinB (bndAt lim p) v)))) h := by
  have ow : ∀ h, ownM E.P h (.d (taskD r c cs hs gs lim tops)) "bounds_of" = some ("Task" : Str) := fun h => by kernel_rfl
  rw [run_is_within]
  simp! [F_is_within, ow, sp_bounds_of hp hm]
  obtain ⟨lo, up⟩ := bndAt lim p
  simp! [bndD, withinB]
  by_cases e : lo ≤ v
  · cases up with
    | none => simp! [e, decide_true, upD, isNon]
    | some u => simp! [e, decide_true, upD, isNon, Bool.true_and]
  · simp! [e, decide_false, Bool.false_and]
/-! ### fits -/
/-- a pile for the cells -/
structure PileFor (cs : List Cell2) (pl : List (Cell2 × Int)) : Prop where
  nd : (keys2 pl).Nodup
  ks : ∀ p, p ∈ keys2 pl ↔ p ∈ cellsOf cs
  rng : ∀ p ∈ cellsOf cs, 0 ≤ hAt pl p ∧ hAt pl p ≤ 1000000000000000000000000000000
theorem hAt_of_mem {pl : List (Cell2 × Int)} (nd : (keys2 pl).Nodup) {q : Cell2 × Int} (hq : q ∈ pl) : q.2 = hAt pl q.1 := by
  induction pl with
  | nil => cases hq
  | cons x r ih =>
    obtain ⟨k, v⟩ := x
    obtain ⟨n1, n2⟩ := List.nodup_cons.mp (show (k :: keys2 r).Nodup from nd)
    rcases List.mem_cons.mp hq with rfl | hq
    · unfold hAt aget; rw [if_pos rfl]; rfl
    · have hk : q.1 ∈ keys2 r := List.mem_map.mpr ⟨q, hq, rfl⟩
      have ne : k ≠ q.1 := fun e => n1 (by rw [e]; exact hk)
      have e2 : aget ((k, v) :: r) q.1 = aget r q.1 := by conv => lhs; unfold aget; rw [if_neg ne]
      rw [ih n2 hq]
      unfold hAt
      rw [e2]
theorem PileFor.len (h : PileFor cs pl) : pl.length = (cellsOf cs).length := by
  have a := nodup_len (l := keys2 pl) (m := cellsOf cs) h.nd fun p hp => (h.ks p).mp hp
  have b := nodup_len (l := cellsOf cs) (m := keys2 pl) (cellsOf_nodup cs) fun p hp => (h.ks p).mpr hp
  unfold keys2 at a b
  rw [List.length_map] at a b
  omega
theorem keys2_map {g : Cell2 → Int} {l : List Cell2} : keys2 (l.map fun p => (p, g p)) = l := by
  unfold keys2
  rw [List.map_map]
  exact List.map_id l
theorem hAt_map {g : Cell2 → Int} {l : List Cell2} (hp : p ∈ l) : hAt (l.map fun p => (p, g p)) p = g p := by
  unfold hAt
  rw [aget_map, if_pos hp]
  rfl
theorem pileFor_map {g : Cell2 → Int} (hcs : cellsOf cs = cs) (nd : cs.Nodup) (hg : ∀ p ∈ cs, 0 ≤ g p ∧ g p ≤ 1000000000000000000000000000000) : PileFor cs (cs.map fun p => (p, g p)) :=
  ⟨by rw [keys2_map]; exact nd, fun p => by rw [keys2_map, hcs], fun p hp => by rw [hcs] at hp; rw [hAt_map hp]; exact hg p hp⟩
theorem PileFor.put (h : PileFor cs pl) {v : Int} (hp : p ∈ cellsOf cs) (hv : 0 ≤ v ∧ v ≤ 1000000000000000000000000000000) : PileFor cs (aput2 pl p v) := by
  refine ⟨nodup_aput2 h.nd, fun q => ?_, fun q hq => ?_⟩
  · rw [keys_aput2, h.ks]
    exact ⟨fun z => z.elim id fun z => by rw [z]; exact hp, fun z => .inl z⟩
  · have hk : q ∈ keys2 (aput2 pl p v) := keys_aput2.mpr (.inl ((h.ks q).mpr hq))
    have hm := (hAt_mem hk).1
    rcases mem_aput2 hm with z | z
    · have := hAt_of_mem h.nd z
      have e : hAt (aput2 pl p v) q = hAt pl q := this
      rw [e]
      exact h.rng q hq
    · have e : hAt (aput2 pl p v) q = v := (Prod.mk.inj z).2
      rw [e]; exact hv
theorem PileFor.isPile (h : PileFor cs pl) (hok : okC r c cs) : isPileD r c cs (.dic (kv D.int pl)) = true := by
  unfold isPileD
  rw [Bool.and_eq_true, decide_eq_true_eq, List.all_eq_true]
  refine ⟨by unfold kv; rw [List.length_map]; exact h.len, fun z hz => ?_⟩
  obtain ⟨q, hq, rfl⟩ := List.mem_map.mp hz
  have hk : q.1 ∈ cellsOf cs := (h.ks _).mp (List.mem_map.mpr ⟨q, hq, rfl⟩)
  have hv := h.rng _ hk
  rw [← hAt_of_mem h.nd hq] at hv
  rw [isCell_mem hok hk]
  simp only [isHeight, isNumber, Bool.true_and, Bool.and_eq_true, decide_eq_true_eq]
  exact hv
theorem kv_candOk (hl : pl.length ≤ sizeLine) : candOk E.P (.dic (kv D.int pl)) = true := by
  show (decide ((kv D.int pl).length ≤ sizeLine) && (kv D.int pl).all fun p => tyd2 E.P p.1 && p.2.tyd E.P) = true
  rw [Bool.and_eq_true, decide_eq_true_eq, List.all_eq_true]
  refine ⟨by unfold kv; rw [List.length_map]; exact hl, fun z hz => ?_⟩
  obtain ⟨q, hq, rfl⟩ := List.mem_map.mp hz
  rfl
theorem sp_fits_no (hl : cs.length ≤ sizeLine) (q : candOk E.P x = true) (e : isPileD r c cs x = false) : E.c (n + 8) "" "fits" [.d (taskD r c cs hs gs lim tops), .d x] h = .ok (.w (.d (.bl false))) h := by
  rw [run_fits]
  simp! [F_fits, tp_plan, sp_Task_plan, sp_is_pile hl q, e]
def fitsB (r c : Int) (cs : List Cell2) (hs gs : List Int) (bl : List (Cell2 × Bnd)) (pl : List (Cell2 × Int)) : Bool := decide (seenR r (cellsOf cs) pl = hs) && decide (seenC c (cellsOf cs) pl = gs) && (cellsOf cs).all fun p => withinB (bndAt bl p) (hAt pl p)
theorem sp_fits (hr : 1 ≤ r ∧ r ≤ 30) (hc : 1 ≤ c ∧ c ≤ 30) (hl : cs.length ≤ sizeLine) (hok : okC r c cs) (hp : PileFor cs pl) : E.c (n + 8) "" "fits" [.d (taskD r c cs hs gs lim tops), .d (.dic (kv D.int pl))] h = .ok (.w (.d (.bl (fitsB r c cs hs gs lim pl)))) h := by
  have lz : pl.length ≤ sizeLine := by rw [hp.len]; exact Nat.le_trans (cellsOf_len cs) hl
  have hk : ∀ p ∈ cellsOf cs, ∃ v, aget pl p = some v := fun p hm => ⟨_, (hAt_mem ((hp.ks p).mpr hm)).2⟩
  have eV : ∀ h, E.c (n + 7) "" "views_of" [.d (planC r c cs), .d (.dic (kv D.int pl))] h = .ok (.new (iniV ((seenR r (cellsOf cs) pl).map D.int) ((seenC c (cellsOf cs) pl).map D.int))) h := fun h => sp_views_of (n := n + 1) hr hc hl hk hp.rng
  rw [run_fits]
  simp! [F_fits, tp_plan, sp_Task_plan, sp_is_pile hl (kv_candOk lz), hp.isPile hok, eV, toW_iniV, tp_views, sp_Task_views, eq_views]
  by_cases e : (decide (seenR r (cellsOf cs) pl = hs) && decide (seenC c (cellsOf cs) pl = gs)) = true
  · simp! [e]
    have e1 : (kv D.int pl).map (fun p => D.tup [p.1, p.2]) = pl.map fun q => D.tup [pD q.1, .int q.2] := by unfold kv; rw [List.map_map]; rfl
    rw [e1, lcGo_mapT (fun q : Cell2 × Int => D.tup [pD q.1, .int q.2]) (fun q => .bl (withinB (bndAt lim q.1) q.2)) pl lz (fun q hq => ?_)]
    rotate_left
    · have hk : q.1 ∈ cellsOf cs := (hp.ks _).mp (List.mem_map.mpr ⟨q, hq, rfl⟩)
      simp! [sp_is_within (n := n) (place_ok hok (mem_cellsOf.mp hk)) hk]
    simp! [all_l (asBools_map (fun q : Cell2 × Int => withinB (bndAt lim q.1) q.2) pl)]
    have e2 : ((pl.map fun q => withinB (bndAt lim q.1) q.2).all id) = (cellsOf cs).all fun p => withinB (bndAt lim p) (hAt pl p) := by
      rw [Bool.eq_iff_iff, List.all_eq_true, List.all_eq_true]
      constructor
      · intro z p hm
        have := z _ (List.mem_map.mpr ⟨_, (hAt_mem ((hp.ks p).mpr hm)).1, rfl⟩)
        exact this
      · intro z b hb
        obtain ⟨q, hq, rfl⟩ := List.mem_map.mp hb
        have := z q.1 ((hp.ks _).mp (List.mem_map.mpr ⟨q, hq, rfl⟩))
        rw [← hAt_of_mem hp.nd hq] at this
        exact this
    rw [e2]
    unfold fitsB
    rw [e, Bool.true_and]
  · have e' : (decide (seenR r (cellsOf cs) pl = hs) && decide (seenC c (cellsOf cs) pl = gs)) = false := by simpa using e
    simp! [e']
    unfold fitsB
    rw [e', Bool.false_and]
/-! ### the law's own -/
theorem sp_law_fits (hl : cs.length ≤ 900) (hR : hs.length ≤ 30) (hC : gs.length ≤ 30) (hk : ∀ p ∈ cs, ∃ v, aget pl p = some v) :
    E.c (n + 2) "" "_law_fits" [.d (partsD cs hs gs bl), .d (.dic (kv D.int pl))] h = .ok (.w (.d (.bl (cs.all (fun p => withinB (bndAt bl p) (hAt pl p)) && (decide ((List.range hs.length).map (fun k : Nat => mxL ((cs.filter fun p => decide (p.1 = (k : Int))).map (hAt pl))) = hs) && decide ((List.range gs.length).map (fun k : Nat => mxL ((cs.filter fun p => decide (p.2 = (k : Int))).map (hAt pl))) = gs)))))) h := by
  have hk' : ∀ p ∈ cs, aget pl p = some (hAt pl p) := fun p hp => by obtain ⟨v, e⟩ := hk p hp; exact hAt_some e
  have hmx : ∀ (f : Cell2 → Bool) h, E.c (n + 1) "" "_law_max" [.d (.lst ((cs.filter f).map fun p => .int (hAt pl p)))] h = .ok (.w (.d (.int (mxL ((cs.filter f).map (hAt pl)))))) h := fun f h => by
    have e : ((cs.filter f).map fun p => D.int (hAt pl p)) = ((cs.filter f).map (hAt pl)).map D.int := by rw [List.map_map]; rfl
    rw [e]
    exact sp_law_max (by rw [List.length_map]; have := List.length_filter_le f cs; omega)
  rw [run__law_fits]
  simp! [F__law_fits, partsD]
  refine next_guard (T := fun o => fin false h.length o = _) (I := fun ρ => ∃ a6 a7 a8 a9 a10 a11 a12, ρ = [some (.d (.lst [.lst (cs.map pD), .lst (hs.map D.int), .lst (gs.map D.int), .dic (kv bndD bl)])), some (.d (.dic (kv D.int pl))), some (.d (.lst (cs.map pD))), some (.d (.lst (hs.map D.int))), some (.d (.lst (gs.map D.int))), some (.d (.dic (kv bndD bl))), a6, a7, a8, a9, a10, a11, a12]) (fun x => match x with | .tup [.int i, .int j] => withinB (bndAt bl (i, j)) (hAt pl (i, j)) | _ => true) (.w (.d (.bl false))) take_len ⟨_, _, _, _, _, _, _, rfl⟩ ?_ ?_ ?_
  · rintro x hx ρ ⟨a6, a7, a8, a9, a10, a11, a12, rfl⟩
    obtain ⟨p, hp, rfl⟩ := List.mem_map.mp hx
    show (withinB (bndAt bl p) (hAt pl p) = true → _) ∧ (withinB (bndAt bl p) (hAt pl p) = false → _)
    simp! [get_kv, bnd_get]
    obtain ⟨lo, up⟩ := bndAt bl p
    by_cases e : hAt pl p < lo
    · have e1 : ¬ lo ≤ hAt pl p := by omega
      simp! [bndD, sub_kv (hk' p hp), e, decide_true, withinB, e1, decide_false, Bool.false_and]
      exact ⟨nofun, fun _ => trivial⟩
    · have e1 : lo ≤ hAt pl p := by omega
      cases up with
      | none =>
        simp! [bndD, upD, isNon, sub_kv (hk' p hp), e, decide_true, decide_false, withinB, e1]
        exact ⟨fun _ => ⟨_, rfl, _, _, _, _, _, _, _, rfl⟩, nofun⟩
      | some u =>
        by_cases e2 : u < hAt pl p
        · have e3 : ¬ hAt pl p ≤ u := by omega
          simp! [bndD, upD, isNon, sub_kv (hk' p hp), e, decide_true, decide_false, withinB, e1, e2, e3]
          exact ⟨nofun, fun _ => trivial⟩
        · have e3 : hAt pl p ≤ u := by omega
          simp! [bndD, upD, isNon, sub_kv (hk' p hp), e, decide_true, decide_false, withinB, e1, e2, e3]
          exact ⟨fun _ => ⟨_, rfl, _, _, _, _, _, _, _, rfl⟩, nofun⟩
  · rintro ρ hall ⟨a6, a7, a8, a9, a10, a11, a12, rfl⟩
    have ha : cs.all (fun p => withinB (bndAt bl p) (hAt pl p)) = true := by
      rw [List.all_map] at hall
      exact hall
    rw [ha, Bool.true_and]
    simp! [List.length_map, range_i (show -(2 ^ 62) ≤ (hs.length : Int) ∧ (hs.length : Int) < 2 ^ 62 by omega)]
    unfold rangeD
    rw [lcGo_mapT (fun k : Nat => D.int k) (fun k => .int (mxL ((cs.filter fun p => decide (p.1 = (k : Int))).map (hAt pl)))) (List.range (hs.length : Int).toNat) (by rw [List.length_range]; exact le_size (by omega)) (fun k hk => ?_)]
    rotate_left
    · simp! []
      rw [lcGo_mapF pD (fun p => decide (p.1 = (k : Int))) (fun p => .int (hAt pl p)) cs (le_sz (by omega)) (fun p hp => by simp! [sub_kv (hk' p hp)]; by_cases e : p.1 = (k : Int) <;> simp! [e, decide_true, decide_false, sub_kv (hk' p hp)])]
      simp! [hmx]
    simp! [List.length_map, range_i (show -(2 ^ 62) ≤ (gs.length : Int) ∧ (gs.length : Int) < 2 ^ 62 by omega)]
    unfold rangeD
    rw [lcGo_mapT (fun k : Nat => D.int k) (fun k => .int (mxL ((cs.filter fun p => decide (p.2 = (k : Int))).map (hAt pl)))) (List.range (gs.length : Int).toNat) (by rw [List.length_range]; exact le_size (by omega)) (fun k hk => ?_)]
    rotate_left
    · simp! []
      rw [lcGo_mapF pD (fun p => decide (p.2 = (k : Int))) (fun p => .int (hAt pl p)) cs (le_sz (by omega)) (fun p hp => by simp! [sub_kv (hk' p hp)]; by_cases e : p.2 = (k : Int) <;> simp! [e, decide_true, decide_false, sub_kv (hk' p hp)])]
      simp! [hmx]
    have er : ∀ (m : Nat) (g : Nat → Int), (List.range (m : Int).toNat).map (fun k => D.int (g k)) = ((List.range m).map g).map D.int := fun m g => by rw [Int.toNat_natCast, List.map_map]; rfl
    rw [er, er]
    simp! [eq_ints]
    by_cases e : (List.range hs.length).map (fun k : Nat => mxL ((cs.filter fun p => decide (p.1 = (k : Int))).map (hAt pl))) = hs
    · simp! [e, decide_true, Bool.true_and, eq_ints]
    · simp! [e, decide_false, Bool.false_and]
  · intro hno
    have ha : cs.all (fun p => withinB (bndAt bl p) (hAt pl p)) = false := by
      rw [List.all_map] at hno
      exact hno
    rw [ha, Bool.false_and]
    simp! []
end
end Pe.Pv
set_option maxHeartbeats 4000000
set_option maxHeartbeats 0
namespace Pe.Pv
open PySem Pw
section
variable {n : Nat} {h : Cells} {x : D} {cs : List Cell2} {hs gs : List Int} {lim : List (Cell2 × Bnd)} {pl : List (Cell2 × Int)}
def OddOk (r c : Int) (cs : List Cell2) (x : D) : Prop := candOk E.P x = true ∧ isPileD r c cs x = false
theorem fits_same (hcs : cellsOf cs = cs) (hp : PileFor cs pl) : fitsB hs.length gs.length cs hs gs (limOf lim) pl = (cs.all (fun p => withinB (bndAt lim p) (hAt pl p)) && (decide ((List.range hs.length).map (fun k : Nat => mxL ((cs.filter fun p => decide (p.1 = (k : Int))).map (hAt pl))) = hs) && decide ((List.range gs.length).map (fun k : Nat => mxL ((cs.filter fun p => decide (p.2 = (k : Int))).map (hAt pl))) = gs))) := by
  have hnn : ∀ (f : Cell2 → Bool), ∀ x ∈ (cs.filter f).map (hAt pl), 0 ≤ x := fun f x hx => by
    obtain ⟨p, hq, rfl⟩ := List.mem_map.mp hx
    exact (hp.rng p (by rw [hcs]; exact (List.mem_filter.mp hq).1)).1
  have e1 : seenR hs.length cs pl = (List.range hs.length).map (fun k : Nat => mxL ((cs.filter fun p => decide (p.1 = (k : Int))).map (hAt pl))) := by
    unfold seenR
    rw [Int.toNat_natCast]
    refine List.map_congr_left fun k _ => ?_
    unfold seen onLn
    rw [mxL_eq (hnn _)]
    simp only [if_true]
    exact maxOr_0 (hnn _)
  have e2 : seenC gs.length cs pl = (List.range gs.length).map (fun k : Nat => mxL ((cs.filter fun p => decide (p.2 = (k : Int))).map (hAt pl))) := by
    unfold seenC
    rw [Int.toNat_natCast]
    refine List.map_congr_left fun k _ => ?_
    unfold seen onLn
    rw [mxL_eq (hnn _)]
    simp only [Bool.false_eq_true, if_false]
    exact maxOr_0 (hnn _)
  unfold fitsB
  rw [hcs, e1, e2]
  have e3 : (cs.all fun p => withinB (bndAt (limOf lim) p) (hAt pl p)) = cs.all fun p => withinB (bndAt lim p) (hAt pl p) := by simp only [bndAt_lim]
  rw [e3, Bool.and_comm]
theorem law_true (ns : List Int) (hl : ns.length ≤ 63) : ∃ h', E.c (20 + 1) "" "law" [.d (.lst (ns.map .int))] [] = .ok (vB true) h' := by
  refine ⟨[], ?_⟩
  rw [run_law]
  have e0 : -(2 ^ 62) ≤ (if (if ((ns.map D.int).length : Int) < 8 then ((ns.map D.int).length : Int) else 8) > 1 then (if ((ns.map D.int).length : Int) < 8 then ((ns.map D.int).length : Int) else 8) else 1) ∧ (if (if ((ns.map D.int).length : Int) < 8 then ((ns.map D.int).length : Int) else 8) > 1 then (if ((ns.map D.int).length : Int) < 8 then ((ns.map D.int).length : Int) else 8) else 1) < 2 ^ 62 := by split <;> (try split) <;> omega
  simp! [F_law, e0]
  refine next_for (T := fun o => fin false 0 o = Out.ok (vB true) []) (fun ρ h => h = [] ∧ ∃ a1 a2 a3 a4 a5 a6 a7 a8 a9 a10 a11 a12 a13 a14 a15 a16 a17 a18, ρ = [some (.d (.lst (ns.map .int))), a1, a2, a3, a4, a5, a6, a7, a8, a9, a10, a11, a12, a13, a14, a15, a16, a17, a18]) ⟨rfl, _, _, _, _, _, _, _, _, _, _, _, _, _, _, _, _, _, _, rfl⟩ ?_ ?_
  rotate_left
  · rintro ρ h ⟨rfl, a1, a2, a3, a4, a5, a6, a7, a8, a9, a10, a11, a12, a13, a14, a15, a16, a17, a18, rfl⟩
    have c0 : cellsOf [] = [] := by unfold cellsOf dedup sortC; simp
    have eP : ∀ h, callM E.P (E.c 20) "Plan" [.d (.int 1), .d (.int 1), .d (.lst [])] h = .ok (.new (iniC 1 1 [])) h := fun h => sp_Plan (n := 16) (cs := []) (by decide) (by decide) (by decide) (fun p hp => by cases hp)
    have eV : ∀ h, callM E.P (E.c 20) "Views" [.d (.lst [.int 0]), .d (.lst [.int 0])] h = .ok (.new (iniV ([0].map D.int) ([0].map D.int))) h := fun h => sp_Views (n := 15) (s := [.int 0]) (f := [.int 0]) rfl rfl (fun x hx => ints_tyd (l := [0]) x hx) (fun x hx => ints_tyd (l := [0]) x hx)
    have eT : ∀ h, makeK E.P (E.c 20) "Task" [.d (planC 1 1 []), .d (viewsD ([0].map D.int) ([0].map D.int)), .d .non] h = .ok (.new (iniT 1 1 [] [0] [0] [] (topsOf [] [0] [0] []))) h := fun h => sp_Task0 (n := 13) (hs := [0]) (gs := [0]) (by decide) (by decide) rfl rfl (fun p hp => by cases hp) (by decide)
    have eF : ∀ h, E.c 20 "" "fits" [.d (taskD 1 1 [] [0] [0] [] (topsOf [] [0] [0] [])), .d (.dic [])] h = .ok (.w (.d (.bl true))) h := fun h => by
      have := sp_fits (n := 12) (h := h) (r := 1) (c := 1) (cs := []) (hs := [0]) (gs := [0]) (lim := []) (tops := topsOf [] [0] [0] []) (pl := []) (by decide) (by decide) (by decide) (fun p hp => by cases hp) ⟨List.nodup_nil, fun p => by rw [c0]; rfl, fun p hp => by rw [c0] at hp; cases hp⟩
      have e : fitsB 1 1 [] [0] [0] [] [] = true := by unfold fitsB; rw [c0]; decide
      rw [e] at this
      exact this
    simp! [eP, toW_iniC, eV, toW_iniV, eT, toW_iniT, eF, decide_true]
    rfl
  rintro x hx ρ h ⟨rfl, a1, a2, a3, a4, a5, a6, a7, a8, a9, a10, a11, a12, a13, a14, a15, a16, a17, a18, rfl⟩
  obtain ⟨k, rfl, k0, k1⟩ := mem_rangeD hx
  have k1 : k < 1000 := by revert k1; split <;> (try split) <;> omega
  obtain ⟨a, b, es⟩ := sp_stream (n := 19) (h := []) (ns := ns) k0 k1
  simp! [es, range_i (show -(2 ^ 62) ≤ (3 : Int) ∧ (3 : Int) < 2 ^ 62 by omega)]
  refine next_for (fun ρ h => (∃ a b, h = [⟨.lst [.int a, .int b], false⟩]) ∧ ∃ a3 a4 a5 a6 a7 a8 a9 a10 a11 a12 a13 a14 a15 a16 a17 a18, ρ = [some (.d (.lst (ns.map .int))), some (.d (.int k)), some (.r 0), a3, a4, a5, a6, a7, a8, a9, a10, a11, a12, a13, a14, a15, a16, a17, a18]) ⟨⟨_, _, rfl⟩, _, _, _, _, _, _, _, _, _, _, _, _, _, _, _, _, rfl⟩ ?_ ?_
  rotate_left
  · rintro ρ h ⟨⟨a, b, rfl⟩, a3, a4, a5, a6, a7, a8, a9, a10, a11, a12, a13, a14, a15, a16, a17, a18, rfl⟩
    simp! []
    exact ⟨_, _, _, _, _, _, _, _, _, _, _, _, _, _, _, _, _, _, rfl⟩
  rintro x hx ρ h ⟨⟨a, b, rfl⟩, a3, a4, a5, a6, a7, a8, a9, a10, a11, a12, a13, a14, a15, a16, a17, a18, rfl⟩
  simp! []
  refine then_wp (sp_drawn (n := 18) (most := 4) (ht := 3) (by decide) (by decide)) ?_
  rintro v h ⟨⟨a, b, rfl⟩, cs, hs, gs, lim, rfl, hP⟩
  have hr4 : 1 ≤ (hs.length : Int) ∧ (hs.length : Int) ≤ 4 := ⟨by have := hP.hr.1; omega, hP.hr.2⟩
  have hc4 : 1 ≤ (gs.length : Int) ∧ (gs.length : Int) ≤ 4 := ⟨by have := hP.hc.1; omega, hP.hc.2⟩
  have hcs : cellsOf cs = cs := by obtain ⟨l, e⟩ := hP.srt; rw [e]; exact cellsOf_sorted (by rw [← e]; exact hP.nd)
  have hin : ∀ p ∈ cs, (0 ≤ p.1 ∧ p.1 < hs.length) ∧ 0 ≤ p.2 ∧ p.2 < gs.length := hP.ok
  have cl9 : cs.length ≤ 900 := Nat.le_trans (nodup_len hP.nd fun p hp => mem_grid (hin p hp)) (grid_len (by omega) (by omega))
  have csz : cs.length ≤ sizeLine := le_sz (by omega)
  have s10 : ∀ p ∈ cs, small10 p := fun p hp => by have := hin p hp; exact ⟨⟨this.1.1, by omega⟩, this.2.1, by omega⟩
  have pok : ∀ p ∈ cs, placeOf hs.length gs.length (pD p) = true := fun p hp => place_ok hP.ok hp
  have lsz : lim.length ≤ 900 := by
    have := nodup_len (l := keys2 lim) (m := cs) hP.ln fun p hp => by
      obtain ⟨q, hq, rfl⟩ := List.mem_map.mp hp
      exact (hP.lk q hq).1
    unfold keys2 at this
    rw [List.length_map] at this
    omega
  have hb : ∀ q ∈ lim, placeOf hs.length gs.length (pD q.1) = true ∧ q.1 ∈ cellsOf cs ∧ bndOk q.2 = true := fun q hq => by
    obtain ⟨b1, b2, b3, b4⟩ := hP.lk q hq
    refine ⟨pok _ b1, by rw [hcs]; exact b1, ?_⟩
    obtain ⟨p, lo, up⟩ := q
    unfold bndOk
    cases up with
    | none => simp only [Bool.and_true, Bool.and_eq_true, decide_eq_true_eq]; exact ⟨b2, by show lo ≤ _; have : lo ≤ 3 := b3; omega⟩
    | some u =>
      obtain ⟨b5, b6⟩ := b4 u rfl
      simp only [Bool.and_eq_true, decide_eq_true_eq]
      have b2' : 0 ≤ lo := b2
      have b5' : lo ≤ u := b5
      have b6' : u ≤ 3 + 1 := b6
      exact ⟨⟨b2', by omega⟩, ⟨by omega, by omega⟩, b5'⟩
  have eM : ∀ h, E.c 20 "" "_law_made" [.d (.lst [.lst (cs.map pD), .lst (hs.map D.int), .lst (gs.map D.int), .dic (kv bndD lim)])] h = .ok (.new (iniT hs.length gs.length cs hs gs (limOf lim) (topsOf cs hs gs (limOf lim)))) h := fun h => sp_law_made (n := 12) ⟨hP.hr.1, by omega⟩ ⟨hP.hc.1, by omega⟩ (fun v hv => by have := hP.hv v hv; omega) (fun v hv => by have := hP.gv v hv; omega) hP.ok csz (le_sz (by omega)) hP.ln hb
  have eTop : ∀ p ∈ cs, ∀ h, E.c 20 "" "_law_top" [.d (.lst [.lst (cs.map pD), .lst (hs.map D.int), .lst (gs.map D.int), .dic (kv bndD lim)]), .d (pD p)] h = .ok (.w (.d (.int (topOf hs gs (bndAt lim p) p)))) h := fun p hp h => sp_law_top (n := 19) (hin p hp).1 (hin p hp).2
  simp! [eM, toD_iniT]
  rw [lcGo_mapT pD (fun p => .tup [pD p, .int (if topOf hs gs (bndAt lim p) p > 0 then topOf hs gs (bndAt lim p) p else 0)]) cs csz (fun p hp => by simp! [eTop p hp])]
  simp! [dict_cells (f := D.int) (g := fun p => if topOf hs gs (bndAt lim p) p > 0 then topOf hs gs (bndAt lim p) p else 0) hP.nd csz]
  obtain ⟨tl, etl⟩ : ∃ tl : List (Cell2 × Int), tl = cs.map fun p => (p, if topOf hs gs (bndAt lim p) p > 0 then topOf hs gs (bndAt lim p) p else 0) := ⟨_, rfl⟩
  rw [← etl]
  have tf : PileFor cs tl := by
    rw [etl]
    refine pileFor_map hcs hP.nd fun p hp => ?_
    have hle := topOf_le (gs := gs) (b := bndAt lim p) (hin p hp).1
    have := hP.hv _ (getD_mem (l := hs) (k := p.1.toNat) (by have := (hin p hp).1; omega))
    split <;> omega
  have tk : keys2 tl = cs := by rw [etl]; exact keys2_map
  have tz : tl.length ≤ 900 := by rw [etl, List.length_map]; exact cl9
  have gd : ∀ pl, PileFor cs pl → (∀ p ∈ keys2 pl, small10 p) ∧ pl.length < sizeLine ∧ pl.length ≤ 1000 ∧ ∀ q ∈ pl, smallQ q := fun pl hp => by
    have hl := hp.len
    rw [hcs] at hl
    refine ⟨fun p hk => s10 p (by rw [← hcs]; exact (hp.ks p).mp hk), Nat.lt_of_le_of_lt (by rw [hl]; exact cl9) (by decide), by omega, fun q hq => ?_⟩
    have hk : q.1 ∈ cellsOf cs := (hp.ks _).mp (List.mem_map.mpr ⟨q, hq, rfl⟩)
    have hv := hp.rng _ hk
    rw [← hAt_of_mem hp.nd hq] at hv
    rw [hcs] at hk
    have := hin _ hk
    exact ⟨⟨this.1.1, by omega⟩, ⟨this.2.1, by omega⟩, hv.1, by omega⟩
  refine then_wp (lcGo_drawL pD (fun p v => .tup [pD p, .int v]) (fun _ v => 0 ≤ v ∧ v < 5) Strm csz ⟨_, _, rfl⟩ ?_) ?_
  · rintro p hp h ⟨a, b, rfl⟩
    obtain ⟨u1, u2⟩ := drawn a b 5 (by decide)
    simp! [draw0]
    exact ⟨⟨_, _, rfl⟩, _, rfl, u1, u2⟩
  rintro ys h ⟨⟨a, b, rfl⟩, vs, hvs, rfl, hok⟩
  have vf : PileFor cs vs := by
    refine ⟨by show (vs.map (·.1)).Nodup; rw [hvs]; exact hP.nd, fun p => by show p ∈ vs.map (·.1) ↔ _; rw [hvs, hcs], fun p hp => ?_⟩
    rw [hcs] at hp
    have hm := (hAt_mem (pl := vs) (p := p) (by show p ∈ vs.map (·.1); rw [hvs]; exact hp)).1
    have := hok _ hm
    have h2 : 0 ≤ hAt vs p ∧ hAt vs p < 5 := this
    omega
  have vz : vs.length ≤ sizeLine := by have := congrArg List.length hvs; rw [List.length_map] at this; omega
  have eD : ∀ h, blM E.P (E.c 20) .dict [.d (.lst (vs.map fun q => D.tup [pD q.1, .int q.2]))] h = .ok (.new (.dic (kv D.int vs))) h := fun h => dict_pairs (fun q : Cell2 × Int => pD q.1) (fun q => keyP q.1) (fun q => .int q.2) (fun q => hk_pD q.1) (by have := keyP_nodup hP.nd; rw [← hvs, List.map_map] at this; exact this) vz
  simp! [eD]
  have eDk : ∀ pl, PileFor cs pl → ∀ h, blM E.P (E.c 20) .dict [.d (.dic (kv D.int pl))] h = .ok (.new (.dic (kv D.int pl))) h := fun pl hp h => dict_kv hp.nd (gd pl hp).1
  have eDt := eDk tl tf
  refine next_forP (fun p ρ h => (∃ a b l, h = [⟨.lst [.int a, .int b], false⟩, ⟨.lst l, false⟩] ∧ l.length = 2 + p.length ∧ ∀ z ∈ l, ∃ pl, z = .dic (kv D.int pl) ∧ PileFor cs pl) ∧ ∃ a8 a10 a11 a12 a13 a14 a15 a16 a17 a18, ρ = [some (.d (.lst (ns.map D.int))), some (.d (.int k)), some (.r 0), some (.d x), some (.d (.lst [.lst (cs.map pD), .lst (hs.map D.int), .lst (gs.map D.int), .dic (kv bndD lim)])), some (.d (taskD hs.length gs.length cs hs gs (limOf lim) (topsOf cs hs gs (limOf lim)))), some (.d (.lst (cs.map pD))), some (.d (.dic (kv D.int tl))), a8, some (.r 1), a10, a11, a12, a13, a14, a15, a16, a17, a18]) ⟨⟨_, _, _, rfl, rfl, fun z hz => ?_⟩, _, _, _, _, _, _, _, _, _, _, rfl⟩ ?_ ?_
  · rcases List.mem_cons.mp hz with rfl | hz
    · exact ⟨_, rfl, tf⟩
    · rw [List.mem_singleton.mp hz]; exact ⟨_, rfl, vf⟩
  · rintro p y q epq ρ h ⟨⟨a, b, l, rfl, hlen, hall⟩, a8, a10, a11, a12, a13, a14, a15, a16, a17, a18, rfl⟩
    obtain ⟨c0, hc0, rfl⟩ := List.mem_map.mp (show y ∈ cs.map pD by rw [epq]; simp)
    have plen : p.length < 900 := by
      have := congrArg List.length epq
      rw [List.length_map, List.length_append, List.length_cons] at this
      omega
    obtain ⟨u1, u2⟩ := drawn a b 5 (by decide)
    have pf2 : PileFor cs (aput2 tl c0 (drawV a b 5)) := tf.put (by rw [hcs]; exact hc0) ⟨u1, by omega⟩
    have elz : l.length < sizeLine := Nat.lt_of_le_of_lt (show l.length ≤ 902 by omega) (by decide)
    simp! [eDt, draw0, put_kv (f := D.int) (l := tl) (p := c0) (v := drawV a b 5) rfl (gd tl tf).2.1, appL_ok elz]
    refine ⟨⟨_, _, _, rfl, by rw [List.length_append, List.length_append, List.length_singleton, List.length_singleton, hlen]; omega, fun z hz => ?_⟩, _, _, _, _, _, _, _, _, _, _, rfl⟩
    rcases List.mem_append.mp hz with hz | hz
    · exact hall z hz
    · rw [List.mem_singleton.mp hz]; exact ⟨_, rfl, pf2⟩
  rintro ρ h ⟨⟨a, b, l, rfl, -, hall⟩, a8, a10, a11, a12, a13, a14, a15, a16, a17, a18, rfl⟩
  simp! []
  refine next_for (fun ρ h => h = [⟨.lst [.int a, .int b], false⟩, ⟨.gone (.lst l), false⟩] ∧ ∃ a8 a10 a11 a12 a13 a14 a15 a16 a17 a18, ρ = [some (.d (.lst (ns.map D.int))), some (.d (.int k)), some (.r 0), some (.d x), some (.d (.lst [.lst (cs.map pD), .lst (hs.map D.int), .lst (gs.map D.int), .dic (kv bndD lim)])), some (.d (taskD hs.length gs.length cs hs gs (limOf lim) (topsOf cs hs gs (limOf lim)))), some (.d (.lst (cs.map pD))), some (.d (.dic (kv D.int tl))), a8, some (.r 1), a10, a11, a12, a13, a14, a15, a16, a17, a18]) ⟨rfl, _, _, _, _, _, _, _, _, _, _, rfl⟩ ?_ ?_
  · rintro y hy ρ h ⟨rfl, a8, a10, a11, a12, a13, a14, a15, a16, a17, a18, rfl⟩
    obtain ⟨pl, rfl, hp⟩ := hall y hy
    have eR : ∀ h, blM E.P (E.c 20) .repr [.d (.dic (kv D.int pl))] h = .ok (.w (.d (.str (PyData.dict (pl.map entP)).shown))) h := fun h => repr_kv (gd pl hp).2.2.1 (gd pl hp).2.2.2
    have eF : ∀ h, E.c 20 "" "fits" [.d (taskD hs.length gs.length cs hs gs (limOf lim) (topsOf cs hs gs (limOf lim))), .d (.dic (kv D.int pl))] h = .ok (.w (.d (.bl (fitsB hs.length gs.length cs hs gs (limOf lim) pl)))) h := fun h => sp_fits (n := 12) ⟨by omega, by omega⟩ ⟨by omega, by omega⟩ csz hP.ok hp
    have eL : ∀ h, E.c 20 "" "_law_fits" [.d (.lst [.lst (cs.map pD), .lst (hs.map D.int), .lst (gs.map D.int), .dic (kv bndD lim)]), .d (.dic (kv D.int pl))] h = .ok (.w (.d (.bl (fitsB hs.length gs.length cs hs gs (limOf lim) pl)))) h := fun h => by
      rw [fits_same hcs hp]
      exact sp_law_fits (n := 18) cl9 (by omega) (by omega) fun p hq => ⟨_, (hAt_mem ((hp.ks p).mpr (by rw [hcs]; exact hq))).2⟩
    have eB : ∀ (bb : Bool) h, eqM E.P (E.c 20) (.d (.bl bb)) (.d (.bl bb)) h = .ok true h := fun bb h => eq_self rfl (Nat.zero_le _)
    simp! [eR, eF, eL, eB, decide_true]
    exact ⟨_, _, _, _, _, _, _, _, _, _, rfl⟩
  rintro ρ h ⟨rfl, a8, a10, a11, a12, a13, a14, a15, a16, a17, a18, rfl⟩
  simp! [eDt]
  have ep40 : ∀ h, putL 2 (some ⟨.dic (kv D.int tl), false⟩) (.tup [.int 40, .int 40]) (.int 1) h = .ok () (h.set 2 ⟨.dic (kv D.int (aput2 tl (40, 40) 1)), false⟩) := fun h => put_kv (f := D.int) (p := (40, 40)) rfl (gd tl tf).2.1
  have n40 : (40, 40) ∉ keys2 tl := fun z => by rw [tk] at z; have := (hin _ z).1.2; have h2 : (40 : Int) < hs.length := this; omega
  have l40 : (aput2 tl (40, 40) 1).length = cs.length + 1 := by rw [aput2_new n40, List.length_append, List.length_singleton, etl, List.length_map]
  have cl' : (cellsOf cs).length = cs.length := by rw [hcs]
  have odd0 : ∀ z ∈ [D.non, D.lst [], D.str "pile", D.int 5, D.dic (kv D.int (aput2 tl (40, 40) 1)), D.lst ((sortC (keys2 tl)).map pD)], OddOk hs.length gs.length cs z := by
    simp only [List.forall_mem_cons]
    refine ⟨⟨rfl, rfl⟩, ⟨rfl, rfl⟩, ⟨rfl, rfl⟩, ⟨rfl, rfl⟩, ⟨kv_candOk (by rw [l40]; exact le_sz (by omega)), ?_⟩, ⟨rfl, rfl⟩, nofun⟩
    show (decide ((kv D.int (aput2 tl (40, 40) 1)).length = (cellsOf cs).length) && _) = false
    rw [decide_eq_false (by unfold kv; rw [List.length_map, l40, cl']; omega)]
    rfl
  simp! [eDt, ep40, sorted_kv, eq_cells0]
  generalize l = l0 at *
  by_cases he : cs = []
  · have e1 : (cs.map pD).isEmpty = true := by rw [he]; rfl
    simp! [e1]
    rw [lcGo_mapF pD (fun p => decide (p.1 < 2)) pD cs csz (fun p hp => by by_cases e : p.1 < 2 <;> simp! [e, decide_true, decide_false])]
    simp! [cut_to1]
    obtain ⟨l, el⟩ : ∃ l, l = [D.non, D.lst [], D.str "pile", D.int 5, D.dic (kv D.int (aput2 tl (40, 40) 1)), D.lst ((sortC (keys2 tl)).map pD)] := ⟨_, rfl⟩
    have hlo := odd0
    rw [← el] at hlo
    have hll : l.length ≤ 20 := by rw [el]; simp
    rw [← el]
    clear el
    refine next_forP (fun p ρ h => (∃ l, h = [⟨.lst [.int a, .int b], false⟩, ⟨.gone (.lst l0), false⟩, ⟨.gone (.dic (kv D.int (aput2 tl (40, 40) 1))), false⟩, ⟨.lst l, false⟩] ∧ l.length ≤ 20 + p.length ∧ ∀ z ∈ l, OddOk hs.length gs.length cs z) ∧ ∃ a8 a10 a11 a12 a15 a16 a17 a18, ρ = [some (.d (.lst (ns.map .int))), some (.d (.int k)), some (.r 0), some (.d x), some (.d (.lst [.lst (cs.map pD), .lst (hs.map D.int), .lst (gs.map D.int), .dic (kv bndD lim)])), some (.d (taskD hs.length gs.length cs hs gs (limOf lim) (topsOf cs hs gs (limOf lim)))), some (.d (.lst (cs.map pD))), some (.d (.dic (kv D.int tl))), a8, some (.r 1), a10, a11, a12, some (.r 2), some (.r 3), a15, a16, a17, a18]) ⟨⟨_, rfl, by simpa using hll, hlo⟩, _, _, _, _, _, _, _, _, rfl⟩ ?_ ?_
    · rintro p y q epq ρ h ⟨⟨l, rfl, hlen, hall⟩, a8, a10, a11, a12, a15, a16, a17, a18, rfl⟩
      have hy : y ∈ ((cs.filter fun p => decide (p.1 < 2)).take 1).map pD := by rw [List.map_take, epq]; simp
      obtain ⟨c0, hc0, rfl⟩ := List.mem_map.mp hy
      obtain ⟨hc1, hc2⟩ := List.mem_filter.mp (List.mem_of_mem_take hc0)
      have hc2 := of_decide_eq_true hc2
      have hc3 := (hin c0 hc1).1.1
      have plen : p.length ≤ 900 := by
        have := congrArg List.length epq
        rw [List.length_take, List.length_append, List.length_cons] at this
        omega
      have hkk : ∀ own : Cell2, (if own = c0 then D.tup [.bl (decide (c0.1 = 1)), .int c0.2] else pD own).hk = some (keyP own) := fun own => by
        by_cases e : own = c0
        · rw [if_pos e, e]
          rcases (show c0.1 = 0 ∨ c0.1 = 1 by omega) with z | z
          · have : keyP c0 = .tup [.num 0, .num c0.2] := by unfold keyP; rw [z]
            rw [this, z]; rfl
          · have : keyP c0 = .tup [.num 1, .num c0.2] := by unfold keyP; rw [z]
            rw [this, z]; rfl
        · rw [if_neg e]; exact hk_pD own
      simp! []
      rw [lcGo_mapT pD (fun own => .tup [if own = c0 then D.tup [.bl (decide (c0.1 = 1)), .int c0.2] else pD own, .int (hAt tl own)]) cs csz (fun own ho => by
        have hz : aget tl own = some (hAt tl own) := (hAt_mem (by rw [tk]; exact ho)).2
        by_cases e : own = c0
        · subst e; simp! [eq_pD, decide_true, sub_kv hz]
        · simp! [eq_pD, e, decide_false, sub_kv hz])]
      simp! [dict_pairs (P := E.P) (cl := E.c 20) (fun own => if own = c0 then D.tup [.bl (decide (c0.1 = 1)), .int c0.2] else pD own) keyP (fun own => D.int (hAt tl own)) hkk (keyP_nodup hP.nd) csz, appL_ok (show l.length < sizeLine from Nat.lt_of_le_of_lt (show l.length ≤ 920 by omega) (by decide))]
      refine ⟨⟨_, rfl, by rw [List.length_append, List.length_append, List.length_singleton, List.length_singleton]; omega, fun z hz => ?_⟩, _, _, _, _, _, _, _, _, rfl⟩
      rcases List.mem_append.mp hz with hz | hz
      · exact hall z hz
      · rw [List.mem_singleton.mp hz]
        refine ⟨?_, ?_⟩
        · show (decide ((cs.map _).length ≤ sizeLine) && (cs.map _).all _) = true
          rw [List.length_map, decide_eq_true csz, Bool.true_and, List.all_eq_true]
          intro w hw
          obtain ⟨own, _, rfl⟩ := List.mem_map.mp hw
          by_cases e : own = c0
          · rw [if_pos e]; rfl
          · rw [if_neg e]; rfl
        · show (_ && (cs.map _).all _) = false
          rw [Bool.and_eq_false_iff]
          refine .inr ?_
          rw [List.all_eq_false]
          refine ⟨_, List.mem_map.mpr ⟨c0, hc1, rfl⟩, ?_⟩
          rw [if_pos rfl]
          show ¬ (isCell hs.length gs.length cs (D.tup [.bl (decide (c0.1 = 1)), .int c0.2]) && _) = true
          have : isCell hs.length gs.length cs (D.tup [.bl (decide (c0.1 = 1)), .int c0.2]) = false := rfl
          rw [this]; simp
    rintro ρ h ⟨⟨l, rfl, -, hall⟩, a8, a10, a11, a12, a15, a16, a17, a18, rfl⟩
    simp! []
    refine next_for (fun ρ h => h = [⟨.lst [.int a, .int b], false⟩, ⟨.gone (.lst l0), false⟩, ⟨.gone (.dic (kv D.int (aput2 tl (40, 40) 1))), false⟩, ⟨.gone (.lst l), false⟩] ∧ ∃ a8 a10 a11 a12 a15 a16 a17 a18, ρ = [some (.d (.lst (ns.map .int))), some (.d (.int k)), some (.r 0), some (.d x), some (.d (.lst [.lst (cs.map pD), .lst (hs.map D.int), .lst (gs.map D.int), .dic (kv bndD lim)])), some (.d (taskD hs.length gs.length cs hs gs (limOf lim) (topsOf cs hs gs (limOf lim)))), some (.d (.lst (cs.map pD))), some (.d (.dic (kv D.int tl))), a8, some (.r 1), a10, a11, a12, some (.r 2), some (.r 3), a15, a16, a17, a18]) ⟨rfl, _, _, _, _, _, _, _, _, rfl⟩ ?_ ?_
    · rintro y hy ρ h ⟨rfl, a8, a10, a11, a12, a15, a16, a17, a18, rfl⟩
      obtain ⟨o1, o2⟩ := hall y hy
      have eN : ∀ h, E.c 20 "" "fits" [.d (taskD hs.length gs.length cs hs gs (limOf lim) (topsOf cs hs gs (limOf lim))), .d y] h = .ok (.w (.d (.bl false))) h := fun h => sp_fits_no (n := 12) csz o1 o2
      simp! [eN, decide_true]
      exact ⟨_, _, _, _, _, _, _, _, rfl⟩
    rintro ρ h ⟨rfl, a8, a10, a11, a12, a15, a16, a17, a18, rfl⟩
    simp! []
    exact ⟨⟨_, _, rfl⟩, _, _, _, _, _, _, _, _, _, _, _, _, _, _, _, _, rfl⟩
  · have e1 : (cs.map pD).isEmpty = false := by cases cs with | nil => exact absurd rfl he | cons _ _ => rfl
    simp! [e1, cut_from1]
    obtain ⟨cz, hcz⟩ : ∃ cz, cs[cs.length - 1]? = some cz := ⟨cs[cs.length - 1]'(by cases cs with | nil => exact absurd rfl he | cons _ _ => simp), List.getElem?_eq_getElem _⟩
    have hczm : cz ∈ cs := List.mem_of_getElem? hcz
    have ndd : (cs.drop 1).Nodup := hP.nd.sublist (List.drop_sublist 1 cs)
    have mdd : ∀ p ∈ cs.drop 1, p ∈ cs := fun p hp => List.mem_of_mem_drop hp
    rw [← List.map_drop, lcGo_mapT pD (fun p => .tup [pD p, .int (hAt tl p)]) (cs.drop 1) (Nat.le_trans (by simp) csz) (fun p hp => by simp! [sub_kv (hAt_mem (pl := tl) (p := p) (by rw [tk]; exact mdd p hp)).2])]
    simp! [dict_cells (P := E.P) (cl := E.c 20) (f := D.int) (g := hAt tl) ndd (Nat.le_trans (by simp) csz), appL_ok, lt_sz]
    have odd1 : OddOk hs.length gs.length cs (.dic (kv D.int ((cs.drop 1).map fun p => (p, hAt tl p)))) := by
      refine ⟨kv_candOk (by rw [List.length_map, List.length_drop]; omega), ?_⟩
      show (decide ((kv D.int ((cs.drop 1).map fun p => (p, hAt tl p))).length = (cellsOf cs).length) && _) = false
      have : cs.length ≠ 0 := fun z => he (List.length_eq_zero_iff.mp z)
      rw [decide_eq_false (by unfold kv; rw [List.length_map, List.length_map, List.length_drop, cl']; omega)]
      rfl
    obtain ⟨l, el⟩ : ∃ l, l = [D.non, D.lst [], D.str "pile", D.int 5, D.dic (kv D.int (aput2 tl (40, 40) 1)), D.lst ((sortC (keys2 tl)).map pD), D.dic (kv D.int ((cs.drop 1).map fun p => (p, hAt tl p)))] := ⟨_, rfl⟩
    have hlo : ∀ z ∈ l, OddOk hs.length gs.length cs z := fun z hz => by
      rw [el] at hz
      rcases List.mem_append.mp (show z ∈ [D.non, D.lst [], D.str "pile", D.int 5, D.dic (kv D.int (aput2 tl (40, 40) 1)), D.lst ((sortC (keys2 tl)).map pD)] ++ [D.dic (kv D.int ((cs.drop 1).map fun p => (p, hAt tl p)))] from hz) with w | w
      · exact odd0 z w
      · rw [List.mem_singleton.mp w]; exact odd1
    have hll : l.length ≤ 7 := by rw [el]; simp
    rw [← el]
    clear el
    refine next_forP (fun p ρ h => (∃ l, h = [⟨.lst [.int a, .int b], false⟩, ⟨.gone (.lst l0), false⟩, ⟨.gone (.dic (kv D.int (aput2 tl (40, 40) 1))), false⟩, ⟨.lst l, false⟩] ∧ l.length ≤ 7 + p.length ∧ ∀ z ∈ l, OddOk hs.length gs.length cs z) ∧ ∃ a8 a10 a11 a12 a15 a16 a17 a18, ρ = [some (.d (.lst (ns.map .int))), some (.d (.int k)), some (.r 0), some (.d x), some (.d (.lst [.lst (cs.map pD), .lst (hs.map D.int), .lst (gs.map D.int), .dic (kv bndD lim)])), some (.d (taskD hs.length gs.length cs hs gs (limOf lim) (topsOf cs hs gs (limOf lim)))), some (.d (.lst (cs.map pD))), some (.d (.dic (kv D.int tl))), a8, some (.r 1), a10, a11, a12, some (.r 2), some (.r 3), a15, a16, a17, a18]) ⟨⟨_, rfl, by simpa using hll, hlo⟩, _, _, _, _, _, _, _, _, rfl⟩ ?_ ?_
    · rintro p y q epq ρ h ⟨⟨l, rfl, hlen, hall⟩, a8, a10, a11, a12, a15, a16, a17, a18, rfl⟩
      have plen : p.length ≤ 4 := by
        have := congrArg List.length epq
        simp only [List.length_append, List.length_cons, List.length_nil] at this
        omega
      have hy : y.tyd E.P = true ∧ isHeight y = false ∧ noIns y = true := by
        have hm : y ∈ [D.non, .bl true, .str "1", .int (-1)] := by rw [epq]; simp
        revert hm
        generalize y = y'
        intro hm
        revert y'
        simp only [List.forall_mem_cons]
        exact ⟨⟨rfl, rfl, rfl⟩, ⟨rfl, rfl, rfl⟩, ⟨rfl, rfl, rfl⟩, ⟨rfl, by decide, rfl⟩, nofun⟩
      have hl9 : ∀ h, subM (.d (.lst (cs.map pD))) (.int (-1)) h = .ok (.w (.d (pD cz))) h := fun h => sub_last (by rw [List.length_map, List.getElem?_map, hcz]; rfl)
      have kvz : (kv D.int tl).length < sizeLine := by unfold kv; rw [List.length_map]; exact (gd tl tf).2.1
      simp! [eDt, hl9, put_dic (kvs := kv D.int tl) (x := y) (hk_pD cz) kvz, appL_ok (show l.length < sizeLine from Nat.lt_of_le_of_lt (show l.length ≤ 11 by omega) (by decide))]
      refine ⟨⟨_, rfl, by rw [List.length_append, List.length_append, List.length_singleton, List.length_singleton]; omega, fun z hz => ?_⟩, _, _, _, _, _, _, _, _, rfl⟩
      rcases List.mem_append.mp hz with hz | hz
      · exact hall z hz
      · rw [List.mem_singleton.mp hz]
        have kt := kv_candOk (pl := tl) (by have := (gd tl tf).2.1; omega)
        have kt' : ((kv D.int tl).all fun p => tyd2 E.P p.1 && p.2.tyd E.P) = true := (Bool.and_eq_true_iff.mp (show (decide ((kv D.int tl).length ≤ sizeLine) && (kv D.int tl).all fun p => tyd2 E.P p.1 && p.2.tyd E.P) = true from kt)).2
        refine ⟨?_, ?_⟩
        · show (decide ((dput (kv D.int tl) (pD cz) (keyP cz) y).length ≤ sizeLine) && (dput (kv D.int tl) (pD cz) (keyP cz) y).all fun p => tyd2 E.P p.1 && p.2.tyd E.P) = true
          have dl := dput_len (kvs := kv D.int tl) (kd := pD cz) (k := keyP cz) (x := y)
          rw [decide_eq_true (show (dput (kv D.int tl) (pD cz) (keyP cz) y).length ≤ sizeLine by omega), Bool.true_and, List.all_eq_true]
          intro w hw
          rcases dput_sub hw with w1 | ⟨w1, w2⟩
          · exact List.all_eq_true.mp kt' w w1
          · rw [w1, hy.1, Bool.and_true]
            rcases w2 with w2 | ⟨u, w2⟩
            · rw [w2]; rfl
            · exact (Bool.and_eq_true_iff.mp (List.all_eq_true.mp kt' _ w2)).1
        · show (_ && (dput (kv D.int tl) (pD cz) (keyP cz) y).all fun p => isCell hs.length gs.length cs p.1 && isHeight p.2) = false
          rw [Bool.and_eq_false_iff]
          refine .inr ?_
          rw [List.all_eq_false]
          obtain ⟨d, hd⟩ := dput_mem (kvs := kv D.int tl) (kd := pD cz) (k := keyP cz) (x := y)
          exact ⟨_, hd, by simp [hy.2.1]⟩
    rintro ρ h ⟨⟨l, rfl, hll, hlo⟩, a8, a10, a11, a12, a15, a16, a17, a18, rfl⟩
    simp! []
    rw [lcGo_mapF pD (fun p => decide (p.1 < 2)) pD cs csz (fun p hp => by by_cases e : p.1 < 2 <;> simp! [e, decide_true, decide_false])]
    simp! [cut_to1]
    refine next_forP (fun p ρ h => (∃ l, h = [⟨.lst [.int a, .int b], false⟩, ⟨.gone (.lst l0), false⟩, ⟨.gone (.dic (kv D.int (aput2 tl (40, 40) 1))), false⟩, ⟨.lst l, false⟩] ∧ l.length ≤ 20 + p.length ∧ ∀ z ∈ l, OddOk hs.length gs.length cs z) ∧ ∃ a8 a10 a11 a12 a15 a16 a17 a18, ρ = [some (.d (.lst (ns.map .int))), some (.d (.int k)), some (.r 0), some (.d x), some (.d (.lst [.lst (cs.map pD), .lst (hs.map D.int), .lst (gs.map D.int), .dic (kv bndD lim)])), some (.d (taskD hs.length gs.length cs hs gs (limOf lim) (topsOf cs hs gs (limOf lim)))), some (.d (.lst (cs.map pD))), some (.d (.dic (kv D.int tl))), a8, some (.r 1), a10, a11, a12, some (.r 2), some (.r 3), a15, a16, a17, a18]) ⟨⟨_, rfl, by have hll : l.length ≤ 7 + 4 := hll; show l.length ≤ 20 + 0; omega, hlo⟩, _, _, _, _, _, _, _, _, rfl⟩ ?_ ?_
    · rintro p y q epq ρ h ⟨⟨l, rfl, hlen, hall⟩, a8, a10, a11, a12, a15, a16, a17, a18, rfl⟩
      have hy : y ∈ ((cs.filter fun p => decide (p.1 < 2)).take 1).map pD := by rw [List.map_take, epq]; simp
      obtain ⟨c0, hc0, rfl⟩ := List.mem_map.mp hy
      obtain ⟨hc1, hc2⟩ := List.mem_filter.mp (List.mem_of_mem_take hc0)
      have hc2 := of_decide_eq_true hc2
      have hc3 := (hin c0 hc1).1.1
      have plen : p.length ≤ 900 := by
        have := congrArg List.length epq
        rw [List.length_take, List.length_append, List.length_cons] at this
        omega
      have hkk : ∀ own : Cell2, (if own = c0 then D.tup [.bl (decide (c0.1 = 1)), .int c0.2] else pD own).hk = some (keyP own) := fun own => by
        by_cases e : own = c0
        · rw [if_pos e, e]
          rcases (show c0.1 = 0 ∨ c0.1 = 1 by omega) with z | z
          · have : keyP c0 = .tup [.num 0, .num c0.2] := by unfold keyP; rw [z]
            rw [this, z]; rfl
          · have : keyP c0 = .tup [.num 1, .num c0.2] := by unfold keyP; rw [z]
            rw [this, z]; rfl
        · rw [if_neg e]; exact hk_pD own
      simp! []
      rw [lcGo_mapT pD (fun own => .tup [if own = c0 then D.tup [.bl (decide (c0.1 = 1)), .int c0.2] else pD own, .int (hAt tl own)]) cs csz (fun own ho => by
        have hz : aget tl own = some (hAt tl own) := (hAt_mem (by rw [tk]; exact ho)).2
        by_cases e : own = c0
        · subst e; simp! [eq_pD, decide_true, sub_kv hz]
        · simp! [eq_pD, e, decide_false, sub_kv hz])]
      simp! [dict_pairs (P := E.P) (cl := E.c 20) (fun own => if own = c0 then D.tup [.bl (decide (c0.1 = 1)), .int c0.2] else pD own) keyP (fun own => D.int (hAt tl own)) hkk (keyP_nodup hP.nd) csz, appL_ok (show l.length < sizeLine from Nat.lt_of_le_of_lt (show l.length ≤ 920 by omega) (by decide))]
      refine ⟨⟨_, rfl, by rw [List.length_append, List.length_append, List.length_singleton, List.length_singleton]; omega, fun z hz => ?_⟩, _, _, _, _, _, _, _, _, rfl⟩
      rcases List.mem_append.mp hz with hz | hz
      · exact hall z hz
      · rw [List.mem_singleton.mp hz]
        refine ⟨?_, ?_⟩
        · show (decide ((cs.map _).length ≤ sizeLine) && (cs.map _).all _) = true
          rw [List.length_map, decide_eq_true csz, Bool.true_and, List.all_eq_true]
          intro w hw
          obtain ⟨own, _, rfl⟩ := List.mem_map.mp hw
          by_cases e : own = c0
          · rw [if_pos e]; rfl
          · rw [if_neg e]; rfl
        · show (_ && (cs.map _).all _) = false
          rw [Bool.and_eq_false_iff]
          refine .inr ?_
          rw [List.all_eq_false]
          refine ⟨_, List.mem_map.mpr ⟨c0, hc1, rfl⟩, ?_⟩
          rw [if_pos rfl]
          show ¬ (isCell hs.length gs.length cs (D.tup [.bl (decide (c0.1 = 1)), .int c0.2]) && _) = true
          have : isCell hs.length gs.length cs (D.tup [.bl (decide (c0.1 = 1)), .int c0.2]) = false := rfl
          rw [this]; simp
    rintro ρ h ⟨⟨l, rfl, -, hall⟩, a8, a10, a11, a12, a15, a16, a17, a18, rfl⟩
    simp! []
    refine next_for (fun ρ h => h = [⟨.lst [.int a, .int b], false⟩, ⟨.gone (.lst l0), false⟩, ⟨.gone (.dic (kv D.int (aput2 tl (40, 40) 1))), false⟩, ⟨.gone (.lst l), false⟩] ∧ ∃ a8 a10 a11 a12 a15 a16 a17 a18, ρ = [some (.d (.lst (ns.map .int))), some (.d (.int k)), some (.r 0), some (.d x), some (.d (.lst [.lst (cs.map pD), .lst (hs.map D.int), .lst (gs.map D.int), .dic (kv bndD lim)])), some (.d (taskD hs.length gs.length cs hs gs (limOf lim) (topsOf cs hs gs (limOf lim)))), some (.d (.lst (cs.map pD))), some (.d (.dic (kv D.int tl))), a8, some (.r 1), a10, a11, a12, some (.r 2), some (.r 3), a15, a16, a17, a18]) ⟨rfl, _, _, _, _, _, _, _, _, rfl⟩ ?_ ?_
    · rintro y hy ρ h ⟨rfl, a8, a10, a11, a12, a15, a16, a17, a18, rfl⟩
      obtain ⟨o1, o2⟩ := hall y hy
      have eN : ∀ h, E.c 20 "" "fits" [.d (taskD hs.length gs.length cs hs gs (limOf lim) (topsOf cs hs gs (limOf lim))), .d y] h = .ok (.w (.d (.bl false))) h := fun h => sp_fits_no (n := 12) csz o1 o2
      simp! [eN, decide_true]
      exact ⟨_, _, _, _, _, _, _, _, rfl⟩
    rintro ρ h ⟨rfl, a8, a10, a11, a12, a15, a16, a17, a18, rfl⟩
    simp! []
    exact ⟨⟨_, _, rfl⟩, _, _, _, _, _, _, _, _, _, _, _, _, _, _, _, _, rfl⟩
end
end Pe.Pv
set_option maxHeartbeats 4000000
namespace Pe.Pv
open PySem PySem.Spec PyProof.Rows L2 Pw
def top (i : Nat) : Stmt := PySem.Challenge.pw_cubeviews_k09_fits.main.body.getD i (.Pass ⟨0, 0, 0, 0⟩)
abbrev s_is_integer : Stmt := top 11
abbrev s_is_number : Stmt := top 12
abbrev s_is_height : Stmt := top 13
abbrev s_is_pair : Stmt := top 14
abbrev s_Plan_DinitD : Stmt := inClass (top 15) 0
abbrev s_Plan_is_place : Stmt := inClass (top 15) 2
abbrev s_Plan_rows : Stmt := inClass (top 15) 3
abbrev s_Plan_columns : Stmt := inClass (top 15) 4
abbrev s_Plan_cells : Stmt := inClass (top 15) 5
abbrev s_Plan_DlenD : Stmt := inClass (top 15) 6
abbrev s_Plan_DeqD : Stmt := inClass (top 15) 7
abbrev s_Plan_is_cell : Stmt := inClass (top 15) 8
abbrev s_Plan_is_line : Stmt := inClass (top 15) 9
abbrev s_Plan_lines : Stmt := inClass (top 15) 10
abbrev s_Plan_cells_of : Stmt := inClass (top 15) 11
abbrev s_is_line_within : Stmt := top 16
abbrev s_lines_through : Stmt := top 17
abbrev s_is_height_list : Stmt := top 19
abbrev s_Views_DinitD : Stmt := inClass (top 20) 0
abbrev s_Views_row_heights : Stmt := inClass (top 20) 1
abbrev s_Views_column_heights : Stmt := inClass (top 20) 2
abbrev s_Views_DeqD : Stmt := inClass (top 20) 3
abbrev s_Views_check_line : Stmt := inClass (top 20) 4
abbrev s_Views_height_of : Stmt := inClass (top 20) 5
abbrev s_is_pile : Stmt := top 22
abbrev s_views_of : Stmt := top 23
abbrev s_is_within : Stmt := top 25
abbrev s_fits : Stmt := top 26
abbrev s_are_bounds : Stmt := top 29
abbrev s_check_bounds : Stmt := top 30
abbrev s_check_views : Stmt := top 31
abbrev s_Task_DinitD : Stmt := inClass (top 32) 0
abbrev s_Task_plan : Stmt := inClass (top 32) 1
abbrev s_Task_views : Stmt := inClass (top 32) 2
abbrev s_Task_bounds : Stmt := inClass (top 32) 3
abbrev s_Task_DeqD : Stmt := inClass (top 32) 4
abbrev s_Task_parts : Stmt := inClass (top 32) 5
abbrev s_Task_least_limit : Stmt := inClass (top 32) 6
abbrev s_Task_check_cell : Stmt := inClass (top 32) 7
abbrev s_Task_bounds_of : Stmt := inClass (top 32) 8
abbrev s_Task_lower : Stmt := inClass (top 32) 9
abbrev s_Task_top : Stmt := inClass (top 32) 10
abbrev s__law_stream : Stmt := top 34
abbrev s__law_draw : Stmt := top 35
abbrev s__law_choose : Stmt := top 36
abbrev s__law_max : Stmt := top 37
abbrev s__law_drawn : Stmt := top 38
abbrev s__law_made : Stmt := top 39
abbrev s__law_low : Stmt := top 40
abbrev s__law_top : Stmt := top 41
abbrev s__law_served : Stmt := top 42
abbrev s__law_fits : Stmt := top 43
abbrev s_law : Stmt := top 44
def d_is_integer : DefE := ⟨fun K => He.ga K "is_integer", "is_integer", "is_integer", defArgs s_is_integer, defBody s_is_integer, defScope s_is_integer, [], []⟩
def d_is_number : DefE := ⟨fun K => He.ga K "is_number", "is_number", "is_number", defArgs s_is_number, defBody s_is_number, defScope s_is_number, [], []⟩
def d_is_height : DefE := ⟨fun K => He.ga K "is_height", "is_height", "is_height", defArgs s_is_height, defBody s_is_height, defScope s_is_height, [], []⟩
def d_is_pair : DefE := ⟨fun K => He.ga K "is_pair", "is_pair", "is_pair", defArgs s_is_pair, defBody s_is_pair, defScope s_is_pair, [], []⟩
def d_Plan_DinitD : DefE := ⟨fun K => He.ma K (He.ga K "Plan") "__init__", "__init__", "Plan.__init__", defArgs s_Plan_DinitD, defBody s_Plan_DinitD, defScope s_Plan_DinitD, [], []⟩
def d_Plan_is_place : DefE := ⟨fun K => He.ma K (He.ga K "Plan") "is_place", "is_place", "Plan.is_place", defArgs s_Plan_is_place, defBody s_Plan_is_place, defScope s_Plan_is_place, [], []⟩
def d_Plan_rows : DefE := ⟨fun K => recHead K (He.ma K (He.ga K "Plan") "rows") "property", "rows", "Plan.rows", defArgs s_Plan_rows, defBody s_Plan_rows, defScope s_Plan_rows, [], []⟩
def d_Plan_columns : DefE := ⟨fun K => recHead K (He.ma K (He.ga K "Plan") "columns") "property", "columns", "Plan.columns", defArgs s_Plan_columns, defBody s_Plan_columns, defScope s_Plan_columns, [], []⟩
def d_Plan_cells : DefE := ⟨fun K => recHead K (He.ma K (He.ga K "Plan") "cells") "property", "cells", "Plan.cells", defArgs s_Plan_cells, defBody s_Plan_cells, defScope s_Plan_cells, [], []⟩
def d_Plan_DlenD : DefE := ⟨fun K => He.ma K (He.ga K "Plan") "__len__", "__len__", "Plan.__len__", defArgs s_Plan_DlenD, defBody s_Plan_DlenD, defScope s_Plan_DlenD, [], []⟩
def d_Plan_DeqD : DefE := ⟨fun K => He.ma K (He.ga K "Plan") "__eq__", "__eq__", "Plan.__eq__", defArgs s_Plan_DeqD, defBody s_Plan_DeqD, defScope s_Plan_DeqD, [], []⟩
def d_Plan_is_cell : DefE := ⟨fun K => He.ma K (He.ga K "Plan") "is_cell", "is_cell", "Plan.is_cell", defArgs s_Plan_is_cell, defBody s_Plan_is_cell, defScope s_Plan_is_cell, [], []⟩
def d_Plan_is_line : DefE := ⟨fun K => He.ma K (He.ga K "Plan") "is_line", "is_line", "Plan.is_line", defArgs s_Plan_is_line, defBody s_Plan_is_line, defScope s_Plan_is_line, [], []⟩
def d_Plan_lines : DefE := ⟨fun K => He.ma K (He.ga K "Plan") "lines", "lines", "Plan.lines", defArgs s_Plan_lines, defBody s_Plan_lines, defScope s_Plan_lines, [], []⟩
def d_Plan_cells_of : DefE := ⟨fun K => He.ma K (He.ga K "Plan") "cells_of", "cells_of", "Plan.cells_of", defArgs s_Plan_cells_of, defBody s_Plan_cells_of, defScope s_Plan_cells_of, [], []⟩
def d_is_line_within : DefE := ⟨fun K => He.ga K "is_line_within", "is_line_within", "is_line_within", defArgs s_is_line_within, defBody s_is_line_within, defScope s_is_line_within, [], []⟩
def d_lines_through : DefE := ⟨fun K => He.ga K "lines_through", "lines_through", "lines_through", defArgs s_lines_through, defBody s_lines_through, defScope s_lines_through, [], []⟩
def d_is_height_list : DefE := ⟨fun K => He.ga K "is_height_list", "is_height_list", "is_height_list", defArgs s_is_height_list, defBody s_is_height_list, defScope s_is_height_list, [], []⟩
def d_Views_DinitD : DefE := ⟨fun K => He.ma K (He.ga K "Views") "__init__", "__init__", "Views.__init__", defArgs s_Views_DinitD, defBody s_Views_DinitD, defScope s_Views_DinitD, [], []⟩
def d_Views_row_heights : DefE := ⟨fun K => recHead K (He.ma K (He.ga K "Views") "row_heights") "property", "row_heights", "Views.row_heights", defArgs s_Views_row_heights, defBody s_Views_row_heights, defScope s_Views_row_heights, [], []⟩
def d_Views_column_heights : DefE := ⟨fun K => recHead K (He.ma K (He.ga K "Views") "column_heights") "property", "column_heights", "Views.column_heights", defArgs s_Views_column_heights, defBody s_Views_column_heights, defScope s_Views_column_heights, [], []⟩
def d_Views_DeqD : DefE := ⟨fun K => He.ma K (He.ga K "Views") "__eq__", "__eq__", "Views.__eq__", defArgs s_Views_DeqD, defBody s_Views_DeqD, defScope s_Views_DeqD, [], []⟩
def d_Views_check_line : DefE := ⟨fun K => He.ma K (He.ga K "Views") "check_line", "check_line", "Views.check_line", defArgs s_Views_check_line, defBody s_Views_check_line, defScope s_Views_check_line, [], []⟩
def d_Views_height_of : DefE := ⟨fun K => He.ma K (He.ga K "Views") "height_of", "height_of", "Views.height_of", defArgs s_Views_height_of, defBody s_Views_height_of, defScope s_Views_height_of, [], []⟩
def d_is_pile : DefE := ⟨fun K => He.ga K "is_pile", "is_pile", "is_pile", defArgs s_is_pile, defBody s_is_pile, defScope s_is_pile, [], []⟩
def d_views_of : DefE := ⟨fun K => He.ga K "views_of", "views_of", "views_of", defArgs s_views_of, defBody s_views_of, defScope s_views_of, [], []⟩
def d_is_within : DefE := ⟨fun K => He.ga K "is_within", "is_within", "is_within", defArgs s_is_within, defBody s_is_within, defScope s_is_within, [], []⟩
def d_fits : DefE := ⟨fun K => He.ga K "fits", "fits", "fits", defArgs s_fits, defBody s_fits, defScope s_fits, [], []⟩
def d_are_bounds : DefE := ⟨fun K => He.ga K "are_bounds", "are_bounds", "are_bounds", defArgs s_are_bounds, defBody s_are_bounds, defScope s_are_bounds, [], []⟩
def d_check_bounds : DefE := ⟨fun K => He.ga K "check_bounds", "check_bounds", "check_bounds", defArgs s_check_bounds, defBody s_check_bounds, defScope s_check_bounds, [], []⟩
def d_check_views : DefE := ⟨fun K => He.ga K "check_views", "check_views", "check_views", defArgs s_check_views, defBody s_check_views, defScope s_check_views, [], []⟩
def d_Task_DinitD : DefE := ⟨fun K => He.ma K (He.ga K "Task") "__init__", "__init__", "Task.__init__", defArgs s_Task_DinitD, defBody s_Task_DinitD, defScope s_Task_DinitD, [], [("bounds", .non)]⟩
def d_Task_plan : DefE := ⟨fun K => recHead K (He.ma K (He.ga K "Task") "plan") "property", "plan", "Task.plan", defArgs s_Task_plan, defBody s_Task_plan, defScope s_Task_plan, [], []⟩
def d_Task_views : DefE := ⟨fun K => recHead K (He.ma K (He.ga K "Task") "views") "property", "views", "Task.views", defArgs s_Task_views, defBody s_Task_views, defScope s_Task_views, [], []⟩
def d_Task_bounds : DefE := ⟨fun K => recHead K (He.ma K (He.ga K "Task") "bounds") "property", "bounds", "Task.bounds", defArgs s_Task_bounds, defBody s_Task_bounds, defScope s_Task_bounds, [], []⟩
def d_Task_DeqD : DefE := ⟨fun K => He.ma K (He.ga K "Task") "__eq__", "__eq__", "Task.__eq__", defArgs s_Task_DeqD, defBody s_Task_DeqD, defScope s_Task_DeqD, [], []⟩
def d_Task_parts : DefE := ⟨fun K => He.ma K (He.ga K "Task") "parts", "parts", "Task.parts", defArgs s_Task_parts, defBody s_Task_parts, defScope s_Task_parts, [], []⟩
def d_Task_least_limit : DefE := ⟨fun K => He.ma K (He.ga K "Task") "least_limit", "least_limit", "Task.least_limit", defArgs s_Task_least_limit, defBody s_Task_least_limit, defScope s_Task_least_limit, [], []⟩
def d_Task_check_cell : DefE := ⟨fun K => He.ma K (He.ga K "Task") "check_cell", "check_cell", "Task.check_cell", defArgs s_Task_check_cell, defBody s_Task_check_cell, defScope s_Task_check_cell, [], []⟩
def d_Task_bounds_of : DefE := ⟨fun K => He.ma K (He.ga K "Task") "bounds_of", "bounds_of", "Task.bounds_of", defArgs s_Task_bounds_of, defBody s_Task_bounds_of, defScope s_Task_bounds_of, [], []⟩
def d_Task_lower : DefE := ⟨fun K => He.ma K (He.ga K "Task") "lower", "lower", "Task.lower", defArgs s_Task_lower, defBody s_Task_lower, defScope s_Task_lower, [], []⟩
def d_Task_top : DefE := ⟨fun K => He.ma K (He.ga K "Task") "top", "top", "Task.top", defArgs s_Task_top, defBody s_Task_top, defScope s_Task_top, [], []⟩
def d__law_stream : DefE := ⟨fun K => He.ga K "_law_stream", "_law_stream", "_law_stream", defArgs s__law_stream, defBody s__law_stream, defScope s__law_stream, [], []⟩
def d__law_draw : DefE := ⟨fun K => He.ga K "_law_draw", "_law_draw", "_law_draw", defArgs s__law_draw, defBody s__law_draw, defScope s__law_draw, [], []⟩
def d__law_choose : DefE := ⟨fun K => He.ga K "_law_choose", "_law_choose", "_law_choose", defArgs s__law_choose, defBody s__law_choose, defScope s__law_choose, [], []⟩
def d__law_max : DefE := ⟨fun K => He.ga K "_law_max", "_law_max", "_law_max", defArgs s__law_max, defBody s__law_max, defScope s__law_max, [], []⟩
def d__law_drawn : DefE := ⟨fun K => He.ga K "_law_drawn", "_law_drawn", "_law_drawn", defArgs s__law_drawn, defBody s__law_drawn, defScope s__law_drawn, [], []⟩
def d__law_made : DefE := ⟨fun K => He.ga K "_law_made", "_law_made", "_law_made", defArgs s__law_made, defBody s__law_made, defScope s__law_made, [], []⟩
def d__law_low : DefE := ⟨fun K => He.ga K "_law_low", "_law_low", "_law_low", defArgs s__law_low, defBody s__law_low, defScope s__law_low, [], []⟩
def d__law_top : DefE := ⟨fun K => He.ga K "_law_top", "_law_top", "_law_top", defArgs s__law_top, defBody s__law_top, defScope s__law_top, [], []⟩
def d__law_served : DefE := ⟨fun K => He.ga K "_law_served", "_law_served", "_law_served", defArgs s__law_served, defBody s__law_served, defScope s__law_served, [], []⟩
def d__law_fits : DefE := ⟨fun K => He.ga K "_law_fits", "_law_fits", "_law_fits", defArgs s__law_fits, defBody s__law_fits, defScope s__law_fits, [], []⟩
def d_law : DefE := ⟨fun K => He.ga K "law", "law", "law", defArgs s_law, defBody s_law, defScope s_law, [], []⟩
def fn : List DefE := ([d_is_integer, d_is_number, d_is_height, d_is_pair, d_Plan_DinitD, d_Plan_is_place, d_Plan_rows, d_Plan_columns, d_Plan_cells, d_Plan_DlenD, d_Plan_DeqD, d_Plan_is_cell, d_Plan_is_line, d_Plan_lines, d_Plan_cells_of, d_is_line_within, d_lines_through, d_is_height_list, d_Views_DinitD, d_Views_row_heights, d_Views_column_heights, d_Views_DeqD, d_Views_check_line, d_Views_height_of, d_is_pile, d_views_of, d_is_within, d_fits, d_are_bounds, d_check_bounds] : List DefE) ++ ([d_check_views, d_Task_DinitD, d_Task_plan, d_Task_views, d_Task_bounds, d_Task_DeqD, d_Task_parts, d_Task_least_limit, d_Task_check_cell, d_Task_bounds_of, d_Task_lower, d_Task_top, d__law_stream, d__law_draw, d__law_choose, d__law_max, d__law_drawn, d__law_made, d__law_low, d__law_top, d__law_served, d__law_fits, d_law] : List DefE)
def fa : List Fact := [T.ok]
abbrev R : PySem.W.OpenRow := PySem.W.OpenLaw.row PySem.Challenge.rw_cubeviews_k09_fits
abbrev hk : PySem.W.Hook := hookF 6 fa fn
def ob (s : PySem.W.SharedT) : AlE := obsFG 6 fa fn (HandSHeadRun.getT s)
theorem ob_eq (s : PySem.W.SharedT) : ob s = hk.obs s.abs := obsFG_eq (HandSHeadRun.getT_eq s)
def loose : List PySem.Str := (["_wall", "CubeError", "InvalidPlan", "InvalidViews", "InvalidBounds", "InvalidCell", "InvalidLine", "MAX_SIZE", "MAX_HEIGHT", "is_integer", "is_number", "is_height", "is_pair", "Plan", "is_line_within", "lines_through", "is_height_list", "Views", "is_pile", "views_of", "is_within", "fits", "NO_BOUNDS", "are_bounds", "check_bounds", "check_views", "Task", "_law_stream", "_law_draw", "_law_choose"] : List PySem.Str) ++ (["_law_max", "_law_drawn", "_law_made", "_law_low", "_law_top", "_law_served", "_law_fits"] : List PySem.Str)
theorem run (w : World) : HandSHeadRun.RunEq R (PySem.W.view R.prog [44]) hk ob 12000 loose w := by
  intro os
  kernel_rfl
section
variable {G : Gx}
theorem at_is_integer (c : SaysF fa fn G.K) : DefAt G T.fn "" "is_integer" (d_is_integer.adr G.K) := defAt_of (F := F_is_integer) [] 60 (c.def_ 0 (d := d_is_integer) rfl) rfl (by kernel_rfl) (by kernel_rfl) (by kernel_rfl) fun _ _ _ _ _ _ us hl => match us, hl with | [_], _ => rfl
theorem at_is_number (c : SaysF fa fn G.K) : DefAt G T.fn "" "is_number" (d_is_number.adr G.K) := defAt_of (F := F_is_number) [] 60 (c.def_ 1 (d := d_is_number) rfl) rfl (by kernel_rfl) (by kernel_rfl) (by kernel_rfl) fun _ _ _ _ _ _ us hl => match us, hl with | [_, _, _], _ => rfl
theorem at_is_height (c : SaysF fa fn G.K) : DefAt G T.fn "" "is_height" (d_is_height.adr G.K) := defAt_of (F := F_is_height) [] 60 (c.def_ 2 (d := d_is_height) rfl) rfl (by kernel_rfl) (by kernel_rfl) (by kernel_rfl) fun _ _ _ _ _ _ us hl => match us, hl with | [_], _ => rfl
theorem at_is_pair (c : SaysF fa fn G.K) : DefAt G T.fn "" "is_pair" (d_is_pair.adr G.K) := defAt_of (F := F_is_pair) [] 60 (c.def_ 3 (d := d_is_pair) rfl) rfl (by kernel_rfl) (by kernel_rfl) (by kernel_rfl) fun _ _ _ _ _ _ us hl => match us, hl with | [_], _ => rfl
theorem at_Plan_DinitD (c : SaysF fa fn G.K) : DefAt G T.fn "Plan" "__init__" (d_Plan_DinitD.adr G.K) := defAt_of (F := F_Plan_DinitD) [] 60 (c.def_ 4 (d := d_Plan_DinitD) rfl) rfl (by kernel_rfl) (by kernel_rfl) (by kernel_rfl) fun _ _ _ _ _ _ us hl => match us, hl with | [_, _, _, _], _ => rfl
theorem at_Plan_is_place (c : SaysF fa fn G.K) : DefAt G T.fn "Plan" "is_place" (d_Plan_is_place.adr G.K) := defAt_of (F := F_Plan_is_place) [] 60 (c.def_ 5 (d := d_Plan_is_place) rfl) rfl (by kernel_rfl) (by kernel_rfl) (by kernel_rfl) fun _ _ _ _ _ _ us hl => match us, hl with | [_, _], _ => rfl
theorem at_Plan_rows (c : SaysF fa fn G.K) : DefAt G T.fn "Plan" "rows" (d_Plan_rows.adr G.K) := defAt_of (F := F_Plan_rows) [] 60 (c.def_ 6 (d := d_Plan_rows) rfl) rfl (by kernel_rfl) (by kernel_rfl) (by kernel_rfl) fun _ _ _ _ _ _ us hl => match us, hl with | [_], _ => rfl
theorem at_Plan_columns (c : SaysF fa fn G.K) : DefAt G T.fn "Plan" "columns" (d_Plan_columns.adr G.K) := defAt_of (F := F_Plan_columns) [] 60 (c.def_ 7 (d := d_Plan_columns) rfl) rfl (by kernel_rfl) (by kernel_rfl) (by kernel_rfl) fun _ _ _ _ _ _ us hl => match us, hl with | [_], _ => rfl
theorem at_Plan_cells (c : SaysF fa fn G.K) : DefAt G T.fn "Plan" "cells" (d_Plan_cells.adr G.K) := defAt_of (F := F_Plan_cells) [] 60 (c.def_ 8 (d := d_Plan_cells) rfl) rfl (by kernel_rfl) (by kernel_rfl) (by kernel_rfl) fun _ _ _ _ _ _ us hl => match us, hl with | [_], _ => rfl
theorem at_Plan_DlenD (c : SaysF fa fn G.K) : DefAt G T.fn "Plan" "__len__" (d_Plan_DlenD.adr G.K) := defAt_of (F := F_Plan_DlenD) [] 60 (c.def_ 9 (d := d_Plan_DlenD) rfl) rfl (by kernel_rfl) (by kernel_rfl) (by kernel_rfl) fun _ _ _ _ _ _ us hl => match us, hl with | [_], _ => rfl
theorem at_Plan_DeqD (c : SaysF fa fn G.K) : DefAt G T.fn "Plan" "__eq__" (d_Plan_DeqD.adr G.K) := defAt_of (F := F_Plan_DeqD) [] 60 (c.def_ 10 (d := d_Plan_DeqD) rfl) rfl (by kernel_rfl) (by kernel_rfl) (by kernel_rfl) fun _ _ _ _ _ _ us hl => match us, hl with | [_, _], _ => rfl
theorem at_Plan_is_cell (c : SaysF fa fn G.K) : DefAt G T.fn "Plan" "is_cell" (d_Plan_is_cell.adr G.K) := defAt_of (F := F_Plan_is_cell) [] 60 (c.def_ 11 (d := d_Plan_is_cell) rfl) rfl (by kernel_rfl) (by kernel_rfl) (by kernel_rfl) fun _ _ _ _ _ _ us hl => match us, hl with | [_, _], _ => rfl
theorem at_Plan_is_line (c : SaysF fa fn G.K) : DefAt G T.fn "Plan" "is_line" (d_Plan_is_line.adr G.K) := defAt_of (F := F_Plan_is_line) [] 60 (c.def_ 12 (d := d_Plan_is_line) rfl) rfl (by kernel_rfl) (by kernel_rfl) (by kernel_rfl) fun _ _ _ _ _ _ us hl => match us, hl with | [_, _], _ => rfl
theorem at_Plan_lines (c : SaysF fa fn G.K) : DefAt G T.fn "Plan" "lines" (d_Plan_lines.adr G.K) := defAt_of (F := F_Plan_lines) [] 60 (c.def_ 13 (d := d_Plan_lines) rfl) rfl (by kernel_rfl) (by kernel_rfl) (by kernel_rfl) fun _ _ _ _ _ _ us hl => match us, hl with | [_], _ => rfl
theorem at_Plan_cells_of (c : SaysF fa fn G.K) : DefAt G T.fn "Plan" "cells_of" (d_Plan_cells_of.adr G.K) := defAt_of (F := F_Plan_cells_of) [] 60 (c.def_ 14 (d := d_Plan_cells_of) rfl) rfl (by kernel_rfl) (by kernel_rfl) (by kernel_rfl) fun _ _ _ _ _ _ us hl => match us, hl with | [_, _], _ => rfl
theorem at_is_line_within (c : SaysF fa fn G.K) : DefAt G T.fn "" "is_line_within" (d_is_line_within.adr G.K) := defAt_of (F := F_is_line_within) [] 60 (c.def_ 15 (d := d_is_line_within) rfl) rfl (by kernel_rfl) (by kernel_rfl) (by kernel_rfl) fun _ _ _ _ _ _ us hl => match us, hl with | [_, _, _], _ => rfl
theorem at_lines_through (c : SaysF fa fn G.K) : DefAt G T.fn "" "lines_through" (d_lines_through.adr G.K) := defAt_of (F := F_lines_through) [] 60 (c.def_ 16 (d := d_lines_through) rfl) rfl (by kernel_rfl) (by kernel_rfl) (by kernel_rfl) fun _ _ _ _ _ _ us hl => match us, hl with | [_], _ => rfl
theorem at_is_height_list (c : SaysF fa fn G.K) : DefAt G T.fn "" "is_height_list" (d_is_height_list.adr G.K) := defAt_of (F := F_is_height_list) [] 60 (c.def_ 17 (d := d_is_height_list) rfl) rfl (by kernel_rfl) (by kernel_rfl) (by kernel_rfl) fun _ _ _ _ _ _ us hl => match us, hl with | [_], _ => rfl
theorem at_Views_DinitD (c : SaysF fa fn G.K) : DefAt G T.fn "Views" "__init__" (d_Views_DinitD.adr G.K) := defAt_of (F := F_Views_DinitD) [] 60 (c.def_ 18 (d := d_Views_DinitD) rfl) rfl (by kernel_rfl) (by kernel_rfl) (by kernel_rfl) fun _ _ _ _ _ _ us hl => match us, hl with | [_, _, _], _ => rfl
theorem at_Views_row_heights (c : SaysF fa fn G.K) : DefAt G T.fn "Views" "row_heights" (d_Views_row_heights.adr G.K) := defAt_of (F := F_Views_row_heights) [] 60 (c.def_ 19 (d := d_Views_row_heights) rfl) rfl (by kernel_rfl) (by kernel_rfl) (by kernel_rfl) fun _ _ _ _ _ _ us hl => match us, hl with | [_], _ => rfl
theorem at_Views_column_heights (c : SaysF fa fn G.K) : DefAt G T.fn "Views" "column_heights" (d_Views_column_heights.adr G.K) := defAt_of (F := F_Views_column_heights) [] 60 (c.def_ 20 (d := d_Views_column_heights) rfl) rfl (by kernel_rfl) (by kernel_rfl) (by kernel_rfl) fun _ _ _ _ _ _ us hl => match us, hl with | [_], _ => rfl
theorem at_Views_DeqD (c : SaysF fa fn G.K) : DefAt G T.fn "Views" "__eq__" (d_Views_DeqD.adr G.K) := defAt_of (F := F_Views_DeqD) [] 60 (c.def_ 21 (d := d_Views_DeqD) rfl) rfl (by kernel_rfl) (by kernel_rfl) (by kernel_rfl) fun _ _ _ _ _ _ us hl => match us, hl with | [_, _], _ => rfl
theorem at_Views_check_line (c : SaysF fa fn G.K) : DefAt G T.fn "Views" "check_line" (d_Views_check_line.adr G.K) := defAt_of (F := F_Views_check_line) [] 60 (c.def_ 22 (d := d_Views_check_line) rfl) rfl (by kernel_rfl) (by kernel_rfl) (by kernel_rfl) fun _ _ _ _ _ _ us hl => match us, hl with | [_, _], _ => rfl
theorem at_Views_height_of (c : SaysF fa fn G.K) : DefAt G T.fn "Views" "height_of" (d_Views_height_of.adr G.K) := defAt_of (F := F_Views_height_of) [] 60 (c.def_ 23 (d := d_Views_height_of) rfl) rfl (by kernel_rfl) (by kernel_rfl) (by kernel_rfl) fun _ _ _ _ _ _ us hl => match us, hl with | [_, _], _ => rfl
theorem at_is_pile (c : SaysF fa fn G.K) : DefAt G T.fn "" "is_pile" (d_is_pile.adr G.K) := defAt_of (F := F_is_pile) [] 60 (c.def_ 24 (d := d_is_pile) rfl) rfl (by kernel_rfl) (by kernel_rfl) (by kernel_rfl) fun _ _ _ _ _ _ us hl => match us, hl with | [_, _], _ => rfl
theorem at_views_of (c : SaysF fa fn G.K) : DefAt G T.fn "" "views_of" (d_views_of.adr G.K) := defAt_of (F := F_views_of) [] 60 (c.def_ 25 (d := d_views_of) rfl) rfl (by kernel_rfl) (by kernel_rfl) (by kernel_rfl) fun _ _ _ _ _ _ us hl => match us, hl with | [_, _], _ => rfl
theorem at_is_within (c : SaysF fa fn G.K) : DefAt G T.fn "" "is_within" (d_is_within.adr G.K) := defAt_of (F := F_is_within) [] 60 (c.def_ 26 (d := d_is_within) rfl) rfl (by kernel_rfl) (by kernel_rfl) (by kernel_rfl) fun _ _ _ _ _ _ us hl => match us, hl with | [_, _, _], _ => rfl
theorem at_fits (c : SaysF fa fn G.K) : DefAt G T.fn "" "fits" (d_fits.adr G.K) := defAt_of (F := F_fits) [] 60 (c.def_ 27 (d := d_fits) rfl) rfl (by kernel_rfl) (by kernel_rfl) (by kernel_rfl) fun _ _ _ _ _ _ us hl => match us, hl with | [_, _], _ => rfl
theorem at_are_bounds (c : SaysF fa fn G.K) : DefAt G T.fn "" "are_bounds" (d_are_bounds.adr G.K) := defAt_of (F := F_are_bounds) [] 60 (c.def_ 28 (d := d_are_bounds) rfl) rfl (by kernel_rfl) (by kernel_rfl) (by kernel_rfl) fun _ _ _ _ _ _ us hl => match us, hl with | [_], _ => rfl
theorem at_check_bounds (c : SaysF fa fn G.K) : DefAt G T.fn "" "check_bounds" (d_check_bounds.adr G.K) := defAt_of (F := F_check_bounds) [] 60 (c.def_ 29 (d := d_check_bounds) rfl) rfl (by kernel_rfl) (by kernel_rfl) (by kernel_rfl) fun _ _ _ _ _ _ us hl => match us, hl with | [_, _], _ => rfl
theorem at_check_views (c : SaysF fa fn G.K) : DefAt G T.fn "" "check_views" (d_check_views.adr G.K) := defAt_of (F := F_check_views) [] 60 (c.def_ 30 (d := d_check_views) rfl) rfl (by kernel_rfl) (by kernel_rfl) (by kernel_rfl) fun _ _ _ _ _ _ us hl => match us, hl with | [_, _], _ => rfl
theorem at_Task_plan (c : SaysF fa fn G.K) : DefAt G T.fn "Task" "plan" (d_Task_plan.adr G.K) := defAt_of (F := F_Task_plan) [] 60 (c.def_ 32 (d := d_Task_plan) rfl) rfl (by kernel_rfl) (by kernel_rfl) (by kernel_rfl) fun _ _ _ _ _ _ us hl => match us, hl with | [_], _ => rfl
theorem at_Task_views (c : SaysF fa fn G.K) : DefAt G T.fn "Task" "views" (d_Task_views.adr G.K) := defAt_of (F := F_Task_views) [] 60 (c.def_ 33 (d := d_Task_views) rfl) rfl (by kernel_rfl) (by kernel_rfl) (by kernel_rfl) fun _ _ _ _ _ _ us hl => match us, hl with | [_], _ => rfl
theorem at_Task_bounds (c : SaysF fa fn G.K) : DefAt G T.fn "Task" "bounds" (d_Task_bounds.adr G.K) := defAt_of (F := F_Task_bounds) [] 60 (c.def_ 34 (d := d_Task_bounds) rfl) rfl (by kernel_rfl) (by kernel_rfl) (by kernel_rfl) fun _ _ _ _ _ _ us hl => match us, hl with | [_], _ => rfl
theorem at_Task_DeqD (c : SaysF fa fn G.K) : DefAt G T.fn "Task" "__eq__" (d_Task_DeqD.adr G.K) := defAt_of (F := F_Task_DeqD) [] 60 (c.def_ 35 (d := d_Task_DeqD) rfl) rfl (by kernel_rfl) (by kernel_rfl) (by kernel_rfl) fun _ _ _ _ _ _ us hl => match us, hl with | [_, _], _ => rfl
theorem at_Task_parts (c : SaysF fa fn G.K) : DefAt G T.fn "Task" "parts" (d_Task_parts.adr G.K) := defAt_of (F := F_Task_parts) [] 60 (c.def_ 36 (d := d_Task_parts) rfl) rfl (by kernel_rfl) (by kernel_rfl) (by kernel_rfl) fun _ _ _ _ _ _ us hl => match us, hl with | [_], _ => rfl
theorem at_Task_least_limit (c : SaysF fa fn G.K) : DefAt G T.fn "Task" "least_limit" (d_Task_least_limit.adr G.K) := defAt_of (F := F_Task_least_limit) [] 60 (c.def_ 37 (d := d_Task_least_limit) rfl) rfl (by kernel_rfl) (by kernel_rfl) (by kernel_rfl) fun _ _ _ _ _ _ us hl => match us, hl with | [_, _], _ => rfl
theorem at_Task_check_cell (c : SaysF fa fn G.K) : DefAt G T.fn "Task" "check_cell" (d_Task_check_cell.adr G.K) := defAt_of (F := F_Task_check_cell) [] 60 (c.def_ 38 (d := d_Task_check_cell) rfl) rfl (by kernel_rfl) (by kernel_rfl) (by kernel_rfl) fun _ _ _ _ _ _ us hl => match us, hl with | [_, _], _ => rfl
theorem at_Task_bounds_of (c : SaysF fa fn G.K) : DefAt G T.fn "Task" "bounds_of" (d_Task_bounds_of.adr G.K) := defAt_of (F := F_Task_bounds_of) [] 60 (c.def_ 39 (d := d_Task_bounds_of) rfl) rfl (by kernel_rfl) (by kernel_rfl) (by kernel_rfl) fun _ _ _ _ _ _ us hl => match us, hl with | [_, _], _ => rfl
theorem at_Task_lower (c : SaysF fa fn G.K) : DefAt G T.fn "Task" "lower" (d_Task_lower.adr G.K) := defAt_of (F := F_Task_lower) [] 60 (c.def_ 40 (d := d_Task_lower) rfl) rfl (by kernel_rfl) (by kernel_rfl) (by kernel_rfl) fun _ _ _ _ _ _ us hl => match us, hl with | [_, _], _ => rfl
theorem at_Task_top (c : SaysF fa fn G.K) : DefAt G T.fn "Task" "top" (d_Task_top.adr G.K) := defAt_of (F := F_Task_top) [] 60 (c.def_ 41 (d := d_Task_top) rfl) rfl (by kernel_rfl) (by kernel_rfl) (by kernel_rfl) fun _ _ _ _ _ _ us hl => match us, hl with | [_, _], _ => rfl
theorem at__law_stream (c : SaysF fa fn G.K) : DefAt G T.fn "" "_law_stream" (d__law_stream.adr G.K) := defAt_of (F := F__law_stream) [] 60 (c.def_ 42 (d := d__law_stream) rfl) rfl (by kernel_rfl) (by kernel_rfl) (by kernel_rfl) fun _ _ _ _ _ _ us hl => match us, hl with | [_, _], _ => rfl
theorem at__law_draw (c : SaysF fa fn G.K) : DefAt G T.fn "" "_law_draw" (d__law_draw.adr G.K) := defAt_of (F := F__law_draw) [] 60 (c.def_ 43 (d := d__law_draw) rfl) rfl (by kernel_rfl) (by kernel_rfl) (by kernel_rfl) fun _ _ _ _ _ _ us hl => match us, hl with | [_, _], _ => rfl
theorem at__law_choose (c : SaysF fa fn G.K) : DefAt G T.fn "" "_law_choose" (d__law_choose.adr G.K) := defAt_of (F := F__law_choose) [] 60 (c.def_ 44 (d := d__law_choose) rfl) rfl (by kernel_rfl) (by kernel_rfl) (by kernel_rfl) fun _ _ _ _ _ _ us hl => match us, hl with | [_, _], _ => rfl
theorem at__law_max (c : SaysF fa fn G.K) : DefAt G T.fn "" "_law_max" (d__law_max.adr G.K) := defAt_of (F := F__law_max) [] 60 (c.def_ 45 (d := d__law_max) rfl) rfl (by kernel_rfl) (by kernel_rfl) (by kernel_rfl) fun _ _ _ _ _ _ us hl => match us, hl with | [_], _ => rfl
theorem at__law_drawn (c : SaysF fa fn G.K) : DefAt G T.fn "" "_law_drawn" (d__law_drawn.adr G.K) := defAt_of (F := F__law_drawn) ["front", "limits", "pile", "side"] 60 (c.def_ 46 (d := d__law_drawn) rfl) rfl (by kernel_rfl) (by kernel_rfl) (by kernel_rfl) fun _ _ _ _ _ _ us hl => match us, hl with | [_, _, _], _ => rfl
theorem at__law_made (c : SaysF fa fn G.K) : DefAt G T.fn "" "_law_made" (d__law_made.adr G.K) := defAt_of (F := F__law_made) [] 60 (c.def_ 47 (d := d__law_made) rfl) rfl (by kernel_rfl) (by kernel_rfl) (by kernel_rfl) fun _ _ _ _ _ _ us hl => match us, hl with | [_], _ => rfl
theorem at__law_low (c : SaysF fa fn G.K) : DefAt G T.fn "" "_law_low" (d__law_low.adr G.K) := defAt_of (F := F__law_low) [] 60 (c.def_ 48 (d := d__law_low) rfl) rfl (by kernel_rfl) (by kernel_rfl) (by kernel_rfl) fun _ _ _ _ _ _ us hl => match us, hl with | [_, _], _ => rfl
theorem at__law_top (c : SaysF fa fn G.K) : DefAt G T.fn "" "_law_top" (d__law_top.adr G.K) := defAt_of (F := F__law_top) [] 60 (c.def_ 49 (d := d__law_top) rfl) rfl (by kernel_rfl) (by kernel_rfl) (by kernel_rfl) fun _ _ _ _ _ _ us hl => match us, hl with | [_, _], _ => rfl
theorem at__law_served (c : SaysF fa fn G.K) : DefAt G T.fn "" "_law_served" (d__law_served.adr G.K) := defAt_of (F := F__law_served) ["result"] 60 (c.def_ 50 (d := d__law_served) rfl) rfl (by kernel_rfl) (by kernel_rfl) (by kernel_rfl) fun _ _ _ _ _ _ us hl => match us, hl with | [_, _], _ => rfl
theorem at__law_fits (c : SaysF fa fn G.K) : DefAt G T.fn "" "_law_fits" (d__law_fits.adr G.K) := defAt_of (F := F__law_fits) [] 60 (c.def_ 51 (d := d__law_fits) rfl) rfl (by kernel_rfl) (by kernel_rfl) (by kernel_rfl) fun _ _ _ _ _ _ us hl => match us, hl with | [_, _], _ => rfl
theorem at_law (c : SaysF fa fn G.K) : DefAt G T.fn "" "law" (d_law.adr G.K) := defAt_of (F := F_law) ["changed", "larger", "odd", "odd_ones", "piles", "stream"] 60 (c.def_ 52 (d := d_law) rfl) rfl (by kernel_rfl) (by kernel_rfl) (by kernel_rfl) fun _ _ _ _ _ _ us hl => match us, hl with | [_], _ => rfl
theorem kw_Task_0 (c : SaysF fa fn G.K) (mk : Mk G.K (clsAt G.mg "Task") (d_Task_DinitD.adr G.K)) : KwS G T.fn "Task" 2 [] [.pos 0, .pos 1, .dft .non] := kwS_of (F := F_Task_DinitD) [] 60 2 [] [("bounds", .non)] [.pos 0, .pos 1, .dft .non] (fun us mv _ => us ++ mv) mk (c.def_ 31 (d := d_Task_DinitD) rfl) rfl [("bounds", .non)] rfl (by simp) (fun q h => h) (by kernel_rfl) (by kernel_rfl) (by kernel_rfl) (fun r t _ => r.append t) (fun _ _ _ _ _ _ us mv ws h1 h2 h3 => match us, mv, ws, h1, h2, h3 with | [_, _, _], [_], [], _, _, _ => ⟨_, _, _, _, _, _, rfl, rfl, rfl⟩) (fun v vs zs h1 h2 => match vs, zs, h1, h2 with | [_, _], [], _, _ => rfl) rfl
theorem kw_Task_1 (c : SaysF fa fn G.K) (mk : Mk G.K (clsAt G.mg "Task") (d_Task_DinitD.adr G.K)) : KwS G T.fn "Task" 2 ["bounds"] [.pos 0, .pos 1, .kw 0] := kwS_of (F := F_Task_DinitD) [] 60 2 ["bounds"] [] [.pos 0, .pos 1, .kw 0] (fun us _ ws => us ++ ws) mk (c.def_ 31 (d := d_Task_DinitD) rfl) rfl [("bounds", .non)] rfl (by simp) (by simp) (by kernel_rfl) (by kernel_rfl) (by kernel_rfl) (fun r _ t => r.append t) (fun _ _ _ _ _ _ us mv ws h1 h2 h3 => match us, mv, ws, h1, h2, h3 with | [_, _, _], [], [_], _, _, _ => rfl) (fun v vs zs h1 h2 => match vs, zs, h1, h2 with | [_, _], [_], _, _ => rfl) rfl
theorem facts (c : SaysF fa fn G.K) {h : Heap} (X : G.K.In h) (N : h.Ns mainGlobals G.mg) : Facts G T.prog T.fn := by
  refine facts_ok X N (c.fact 0 (f := T.ok) rfl) ?_ ?_ ?_
  · exact (allc (at_is_integer c) (allc (at_is_number c) (allc (at_is_height c) (allc (at_is_pair c) (allc (at_is_line_within c) (allc (at_lines_through c) (allc (at_is_height_list c) (allc (at_is_pile c) (allc (at_views_of c) (allc (at_is_within c) (allc (at_fits c) (allc (at_are_bounds c) (allc (at_check_bounds c) (allc (at_check_views c) (allc (at__law_stream c) (allc (at__law_draw c) (allc (at__law_choose c) (allc (at__law_max c) (allc (at__law_drawn c) (allc (at__law_made c) (allc (at__law_low c) (allc (at__law_top c) (allc (at__law_served c) (allc (at__law_fits c) (allc (at_law c) nofun)))))))))))))))))))))))))
  · exact (allc ⟨by decide, (allc (.inr (at_Plan_DinitD c)) (allc (.inr (at_Plan_is_place c)) (allc (.inr (at_Plan_rows c)) (allc (.inr (at_Plan_columns c)) (allc (.inr (at_Plan_cells c)) (allc (.inr (at_Plan_DlenD c)) (allc (.inr (at_Plan_DeqD c)) (allc (.inr (at_Plan_is_cell c)) (allc (.inr (at_Plan_is_line c)) (allc (.inr (at_Plan_lines c)) (allc (.inr (at_Plan_cells_of c)) nofun)))))))))))⟩ (allc ⟨by decide, (allc (.inr (at_Views_DinitD c)) (allc (.inr (at_Views_row_heights c)) (allc (.inr (at_Views_column_heights c)) (allc (.inr (at_Views_DeqD c)) (allc (.inr (at_Views_check_line c)) (allc (.inr (at_Views_height_of c)) nofun))))))⟩ (allc ⟨by decide, (allc (.inl (by kernel_rfl)) (allc (.inr (at_Task_plan c)) (allc (.inr (at_Task_views c)) (allc (.inr (at_Task_bounds c)) (allc (.inr (at_Task_DeqD c)) (allc (.inr (at_Task_parts c)) (allc (.inr (at_Task_least_limit c)) (allc (.inr (at_Task_check_cell c)) (allc (.inr (at_Task_bounds_of c)) (allc (.inr (at_Task_lower c)) (allc (.inr (at_Task_top c)) nofun)))))))))))⟩ nofun)))
  · exact (allc (kw_Task_0 c (kw_mk (E := N_Task) X N (c.fact 0 (f := T.ok) rfl) (clsOf_mem (c := "Task") (by kernel_rfl)).1 rfl)) (allc (kw_Task_1 c (kw_mk (E := N_Task) X N (c.fact 0 (f := T.ok) rfl) (clsOf_mem (c := "Task") (by kernel_rfl)).1 rfl)) nofun))
end
end Pe.Pv
open PySem PySem.W PySem.Calls PyProof.Rows
theorem PySem.Challenge.cw_cubeviews_k09_fits_holds : PySem.Challenge.rw_cubeviews_k09_fits.Holds := by
  w_on; o_law
  refine HandSHeadRun.head_any (r := OpenLaw.row PySem.Challenge.rw_cubeviews_k09_fits) (q := view (OpenLaw.row PySem.Challenge.rw_cubeviews_k09_fits).prog [44]) (H := Pe.Pv.hk) (ob := Pe.Pv.ob) (M := 12000) (loose := Pe.Pv.loose) (d := HandSHeadRun.topDef (OpenLaw.row PySem.Challenge.rw_cubeviews_k09_fits).prog 44) (kwd := []) Pe.Pv.ob_eq
    (by kernel_rfl) (fun s => by kernel_rfl) Pe.Pv.run (by kernel_rfl) (by kernel_rfl) (by kernel_rfl) (by rfl) (by first | assumption | decide +kernel) (by decide +kernel) ⟨rfl, rfl, rfl, rfl, rfl, by decide +kernel⟩ ?hw ?hc
  case hw => w_witness2
  case hc =>
    refine Pe.walk_ofG (l := PySem.Challenge.rw_cubeviews_k09_fits) (n := 63) (k := 2 * 20 + 2) (x := "script") rfl (by decide) (by kernel_rfl) ⟨⟨rfl, by decide, by decide⟩, rfl⟩ ?F
    intro w mg fa h Y N hmg0
    obtain ⟨K, KX, c⟩ := Y
    have hmg : mg ("law" : PySem.Str) = some (.ref fa) := by
      have e : (HandSHeadRun.topDef (OpenLaw.row PySem.Challenge.rw_cubeviews_k09_fits).prog 44).name = ("law" : PySem.Str) := by kernel_rfl
      rw [← e]
      exact hmg0
    obtain ⟨f0, g1, _⟩ := (Pe.Pv.facts (G := ⟨(PySem.Challenge.rw_cubeviews_k09_fits).prog, w, K, mg, h⟩) c KX N).fn_ "law" (by kernel_rfl)
    have g2 : mg ("law" : PySem.Str) = some (.ref (He.ga K "law")) := He.glo_ok KX N (He.ba (List.all_eq_true.mp (He.ba (Pe.SaysF.fact c 0 (f := Pe.Pv.T.ok) rfl)).1 ("law", Pe.Pv.F_law) (by exact Pe.alook_mem (by kernel_rfl)))).1
    have e := hmg.symm.trans g2
    cases e
    obtain ⟨fd, F⟩ := Pe.SaysF.def_ c 52 (d := Pe.Pv.d_law) rfl
    have b := L2.FunD.bindsA (ps := ["script"]) F fun _ _ _ _ _ _ us hl => match us, hl with | [_], _ => rfl
    refine ⟨K, fd, Pe.spLaw (PySem.Challenge.rw_cubeviews_k09_fits).prog w K mg (Pe.Pv.E.c (20 + 1)), KX, fun s v => b s [v] rfl, fun H a ns hl _ hS base E => ?_, fun base _ _ => ?_⟩
    · exact Pe.law_sp hS (Pe.Pv.law_true ns hl)
    · have dk : Pe.DefOk ⟨(PySem.Challenge.rw_cubeviews_k09_fits).prog, w, K, mg, base⟩ Pe.Pv.T.fn "" "law" (He.ga K "law") fd Pe.Pv.F_law := ⟨by kernel_rfl, _, _, _, _, _, _, _, ["changed", "larger", "odd", "odd_ones", "piles", "stream"], 60, F, Pe.fnScopeB_ok (by kernel_rfl), by kernel_rfl⟩
      exact Pe.law_ok (wf := 100000) (n := 20) (fn := Pe.Pv.T.fn) (P := Pe.Pv.T.prog) (Pe.Pv.facts (G := ⟨(PySem.Challenge.rw_cubeviews_k09_fits).prog, w, K, mg, base⟩) c KX N) dk rfl
