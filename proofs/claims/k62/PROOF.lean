import PyProof.Rows.All
import Wide.All
import OpenK.AllK
import Wide.FinOn
import HandS.ForMost
import HandS.ForExc
import HandS.Wide
import HandS.TupAny
import HandS.TupLe
import HandS.IsInst
import HandS.CallSlots
import HandS.Deep
import HandS.Zip
import HandS.Rev
import HandS.TryMany
import HandS.TryOnly
import HandS.Head0
import HandS.Head1
import HandS.Head2
import HandS.HeadEnd
import HandS.HeadHook1
import HandS.HeadHook2
import HandS.Defaults
import HandS.SortOrd
import HandS.HeadWalk
import KE.SortData
import HandS.SetFor
import HandS.ExcCtx
import HandS.ExcIs
import HandS.HotCalls
import HandS.SuiteRaise
import HandS.Text
import HandS.WideBits
import HandS.SortKw
import KE.DataMinMax
import KE.KDictKeyed
import KE.DataFind
import KE.KDictPairs
import KE.KDictWalk
import HandS.Dict
import HandS.ForDict
import HandS.Conv
import KE.KDictCopyH
import KE.KEqNest
import KE.KDictDisplayH
import PyProof.Rows.SumAny
import PyProof.AutoSeq1
import HandS.List
import KE.KRevSl
import KE.GoesMore
import HandS.HeadHook4
import KE.LtData
import PyProof.ReprBulk
import PySem.Challenge.RW_platecuts_k62_loads_refused
set_option Elab.async false
set_option linter.all false
set_option maxRecDepth 100000
set_option maxHeartbeats 4000000
/-! CORE: values as trees, the small language, its evaluator. -/
namespace PC
open PySem
/-- fz: never changed any more, closed; fzr: a tuple with cells in it; own: alone in one's hands, its things closed; opn: likewise, its things any; lk, lkx: these, walked by a loop -/
inductive Ow where
  | fz | fzr | own | opn | lk | lkx
  deriving DecidableEq
inductive Tag where
  | tup | lst | scr | dic (ks : List NestedKey) | obj (c : Nat) (fn : List Str)
/-- a value: nd: a tuple, list, dict or instance as a tree; ref k: the k-th cell of the store -/
inductive T where
  | non | bl (b : Bool) | int (i : Int) | str (x : Str) | exc (c : Nat) | ref (k : Nat) | nd (g : Tag) (o : Ow) (xs : List T)
abbrev Store := List T
abbrev Slots := List (Option T)
instance : Inhabited T := ⟨.non⟩
abbrev T.tup (xs : List T) : T := .nd .tup .fz xs
abbrev T.lst (xs : List T) : T := .nd .lst .fz xs
/-- how an expression ends -/
inductive R (α : Type) where
  | ok (a : α) (st : Store) | exc (c : Nat) (st : Store) | bad
@[simp] def R.bind {α β : Type} : R α → (α → Store → R β) → R β
  | .ok a st, f => f a st
  | .exc c st, _ => .exc c st
  | .bad, _ => .bad
/-- a partial function of the store's ends -/
def R.of {α : Type} (o : Option α) (st : Store) : R α := match o with
  | some a => .ok a st
  | none => .bad
/-! ### the language -/
inductive Bi where
  | len | int | str | abs | max2 | min2 | maxL | minL | sum | sorted | list | tuple | all | any | divmod | repr | dict | set
  deriving DecidableEq
inductive Bm where
  | append | extend | clear | pop0 | pop1 | insert | remove | count | index | join | split | replace | getd | itemsd | popd | cleard
  deriving DecidableEq
/-- a class that isinstance asks for -/
inductive Ty where
  | int | bool | str | list | tuple | dict | valueError | own (c : Nat)
  deriving DecidableEq
/-- a target; it -/
inductive Tg where
  | name (i : Nat) | tup (ts : List Tg)
mutual
inductive E where
  | lit (t : T) | var (i : Nat) | glb (x : Str) (t : T)
  | bin (op : Operator) (a b : E) | neg (a : E) | not (a : E)
  | cmp (op : CmpOp) (a b : E) | chain (op op' : CmpOp) (a b c : E) | and (a b : E) | or (a b : E) | ife (c a b : E)
  | tup (es : Es) | tupX (es : Es) | lst (es : Es) | lstX (es : Es) | dic (ks vs : Es) | dis (k v : E)
  | idx (a b : E) | slc (a lo hi : E) | back (a : E) | lrng (a : E) | minD (a : E) | nop
  | call (f : Nat) (es : Es) | make (c : Nat) (es : Es) | meth (m : Str) (o : E) (es : Es) | fld (o : E) (f : Str)
  | bi (b : Bi) (es : Es) | isi (a : E) (cs : List Ty) | bm (m : Bm) (o : E) (es : Es)
  | comp (elt : E) (x : Bool) (tg : Tg) (it : It) (c : E)
  | keep (d : Nat) (e : E)
inductive Es where
  | nil | cons (e : E) (es : Es)
inductive It where
  | seq (e : E) | rng1 (a : E) | rng2 (a b : E) | rng3 (a b c : E) | enum (e : E) | zip2 (a b : E) | zip3 (a b c : E) | rev (e : E) | items (e : E)
end
mutual
inductive S where
  | asg (tg : Tg) (e : E) | par (i j : Nat) (es : Es) | sub (o i e : E) | fld (o : E) (f : Str) (e : E) | subn (o i : E) (j : Nat) (e : E) | ex (e : E) | ret (e : E) | ret0 | pass
  | ite (c : E) (a b : Ss) | for_ (tg : Tg) (it : It) (b : Ss) | whl (n : Nat) (c : E) (b : Ss) | rai (c : Nat) | try_ (b : Ss) (hs : Hs)
inductive Ss where
  | nil | cons (s : S) (ss : Ss)
inductive Hs where
  | nil | cons (c : Ty) (n : Option Nat) (b : Ss) (hs : Hs)
end
structure Fn where
  np : Nat
  ns : Nat
  body : Ss
structure Prog where
  /-- the numbers of the defs, in the order of fns -/
  ix : List Nat
  fns : List Fn
  /-- class, method: its def -/
  meths : List ((Nat × Str) × Nat)
  inits : List (Nat × Nat)
  /-- is an exception of the class c one of d -/
  sub : Nat → Ty → Bool
  /-- the instances' attributes -/
  flds : List (Nat × Str)
  /-- the defs that except suites call, with the exception -/
  hots : List Nat := []
  /-- the exceptions' classes -/
  excs : List Nat := []
/-- an __init__ is called at one level less: the call of the class is a level, too -/
def mkBase : Nat := 1000000
def Prog.any (P : Prog) (i : Nat) : Option Fn := match P.ix.idxOf? i with
  | some k => P.fns[k]?
  | none => none
def Prog.fn (P : Prog) (i : Nat) : Option Fn := if P.hots.contains i then none else P.any i
def Prog.hfn (P : Prog) (i : Nat) : Option Fn := if P.hots.contains i then P.any i else none
/-! ### reading -/
def nodeOf (st : Store) : T → Option (Tag × Ow × List T)
  | .nd g o xs => some (g, o, xs)
  | .ref k => match st[k]? with
    | some (.nd g o xs) => some (g, o, xs)
    | _ => none
  | _ => none
def lstOf (st : Store) (t : T) : Option (List T) := match nodeOf st t with
  | some (.lst, _, xs) => some xs
  | _ => none
/-- a tuple's things -/
def seqOf (st : Store) (t : T) : Option (List T) := match nodeOf st t with
  | some (.tup, _, xs) => some xs
  | _ => none
mutual
def toD (look : Nat → Option PyData) : T → Option PyData
  | .non => some .none
  | .bl b => some (.bool b)
  | .int i => some (.int i)
  | .str x => some (.str x)
  | .exc _ => none
  | .ref k => look k
  | .nd .lst _ xs => (toDs look xs).map .list
  | .nd .tup _ xs => (toDs look xs).map .tuple
  | .nd _ _ _ => none
def toDs (look : Nat → Option PyData) : List T → Option (List PyData)
  | [] => some []
  | x :: xs => match toD look x, toDs look xs with
    | some d, some ds => some (d :: ds)
    | _, _ => none
end
def lookN (st : Store) : Nat → Nat → Option PyData
  | 0, _ => none
  | d + 1, k => match st[k]? with
    | some t => toD (lookN st d) t
    | none => none
def dataOf (st : Store) (t : T) : Option PyData := toD (lookN st 4) t
/-! ### freezing, keeping -/
mutual
/-- what is put into another thing: closed, frozen -/
def fz : T → Store → Option (T × Store)
  | .nd g .own xs, st => some (.nd g .fz xs, st)
  | .nd g .opn xs, st => match fzs xs st with
    | some (ys, st') => some (.nd g .fz ys, st')
    | none => none
  | .nd g .fz xs, st => some (.nd g .fz xs, st)
  | .nd g .fzr xs, st => match fzs xs st with
    | some (ys, st') => some (.nd g .fz ys, st')
    | none => none
  | .nd _ _ _, _ => none
  | .ref k, st => match st[k]? with
    | some (.nd g .own xs) => some (.nd g .fz xs, st.set k (.nd g .fz xs))
    | some (.nd g .fz xs) => some (.nd g .fz xs, st)
    | _ => none
  | .non, st => some (.non, st)
  | .bl b, st => some (.bl b, st)
  | .int i, st => some (.int i, st)
  | .str x, st => some (.str x, st)
  | .exc c, st => some (.exc c, st)
def fzs : List T → Store → Option (List T × Store)
  | [], st => some ([], st)
  | x :: xs, st => match fz x st with
    | some (y, st1) => match fzs xs st1 with
      | some (ys, st2) => some (y :: ys, st2)
      | none => none
    | none => none
end
/-- what a name or an argument gets: a cell stays a cell, what is alone is frozen -/
def fza : T → Store → Option (T × Store)
  | .ref k, st => some (.ref k, st)
  | .nd g .fzr xs, st => some (.nd g .fzr xs, st)
  | t, st => fz t st
mutual
/-- new cells, d deep -/
def kp : Nat → T → Store → Option (T × Store)
  | 0, t, st => fza t st
  | _ + 1, .nd g .own xs, st => some (.ref st.length, st ++ [.nd g .own xs])
  | d + 1, .nd g .opn xs, st => match g with
    | .tup => match kps d xs st with
      | some (ys, st') => if d = 7 then some (.ref st'.length, st' ++ [.nd .tup .opn ys]) else some (.nd .tup .fzr ys, st')
      | none => none
    | g => match kps d xs st with
      | some (ys, st') => some (.ref st'.length, st' ++ [.nd g .opn ys])
      | none => none
  | _ + 1, t, st => fza t st
def kps : Nat → List T → Store → Option (List T × Store)
  | _, [], st => some ([], st)
  | d, x :: xs, st => match kp d x st with
    | some (y, st1) => match kps d xs st1 with
      | some (ys, st2) => some (y :: ys, st2)
      | none => none
    | none => none
end
/-! ### operations -/
open L2 in
def mulOk (i j : Int) : Bool := decide (i.natAbs < 2 ^ 64) || decide (j.natAbs < 2 ^ 64) || decide (i.natAbs.log2 + j.natAbs.log2 < 1000000)
def lenOk (n : Nat) : Bool := decide (n ≤ sizeLine)
def closedOw : Ow → Bool
  | .fz | .own | .lk => true
  | _ => false
/-- a new list of the things of others: own where these are closed -/
def joinOw : Ow → Ow → Ow
  | .fz, .fz => .own | .own, .fz => .own | .fz, .own => .own | .own, .own => .own | .lk, .fz => .own | .fz, .lk => .own | .lk, .own => .own | .own, .lk => .own | .lk, .lk => .own
  | _, _ => .opn
def copyOw : Ow → Ow
  | .fz => .own | .own => .own | .lk => .own | _ => .opn
def catT (x y : T) (st : Store) : R T := match nodeOf st x, nodeOf st y with
  | some (.lst, o, xs), some (.lst, o', ys) => if lenOk (xs.length + ys.length) then .ok (.nd .lst (joinOw o o') (xs ++ ys)) st else .bad
  | some (.tup, .fz, xs), some (.tup, .fz, ys) => if lenOk (xs.length + ys.length) then .ok (.nd .tup .fz (xs ++ ys)) st else .bad
  | some (.scr, o, xs), some (.lst, o', ys) => if lenOk (xs.length + ys.length) && (closedOw o && closedOw o') then .ok (.nd .lst .own (xs ++ ys)) st else .bad
  | _, _ => .bad
def addT : T → T → Store → R T
  | .int i, .int j, st => .ok (.int (i + j)) st
  | .str a, .str b, st => if lenOk (a.length + b.length) then .ok (.str (a ++ b)) st else .bad
  | x, y, st => catT x y st
def subT : T → T → Store → R T
  | .int i, .int j, st => .ok (.int (i - j)) st
  | _, _, _ => .bad
def repT (x : T) (k : Int) (st : Store) : R T := match nodeOf st x with
  | some (.lst, o, xs) => if decide (-(2 ^ 63) ≤ k) && decide (k < 2 ^ 63) && lenOk (xs.length * k.toNat) && closedOw o then .ok (.nd .lst .own (List.replicate k.toNat xs).flatten) st else .bad
  | _ => .bad
def mulT : T → T → Store → R T
  | .int i, .int j, st => if mulOk i j then .ok (.int (i * j)) st else .bad
  | x, .int k, st => repT x k st
  | _, _, _ => .bad
def divT : T → T → Store → R T
  | .int i, .int j, st => if decide (0 < j) && decide (j.natAbs.log2 < 9000) then .ok (.int (i / j)) st else .bad
  | _, _, _ => .bad
def modT : T → T → Store → R T
  | .int i, .int j, st => if 0 < j then .ok (.int (i % j)) st else .bad
  | _, _, _ => .bad
def powT : T → T → Store → R T
  | .int i, .int j, st => if decide (0 ≤ j) && decide (j ≤ 1000000) && decide (i.natAbs < 2 ^ 64) then .ok (.int (i ^ j.toNat)) st else .bad
  | _, _, _ => .bad
def shlT : T → T → Store → R T
  | .int 1, .int j, st => if decide (0 ≤ j) && decide (j ≤ 1000) then .ok (.int (2 ^ j.toNat)) st else .bad
  | _, _, _ => .bad
def shrT : T → T → Store → R T
  | .int i, .int j, st => if 0 ≤ j then .ok (.int (i / 2 ^ j.toNat)) st else .bad
  | _, _, _ => .bad
def andT : T → T → Store → R T
  | .int i, .int 1, st => if 0 ≤ i then .ok (.int (i % 2)) st else .bad
  | _, _, _ => .bad
def binop : Operator → T → T → Store → R T
  | .Add => addT | .Sub => subT | .Mult => mulT | .FloorDiv => divT | .Mod => modT | .Pow => powT | .LShift => shlT | .RShift => shrT | .BitAnd => andT
  | _ => fun _ _ _ => .bad
def scalT : T → T → Option Bool
  | .int i, .int j => some (decide (i = j))
  | .str x, .str y => some (decide (x = y))
  | .bl a, .bl b => some (decide (a = b))
  | .non, .non => some true
  | .non, .int _ => some false | .int _, .non => some false | .non, .bl _ => some false | .bl _, .non => some false | .non, .str _ => some false | .str _, .non => some false
  | .int _, .str _ => some false | .str _, .int _ => some false | .bl _, .str _ => some false | .str _, .bl _ => some false
  | _, _ => none
def dicB (st : Store) (x : T) : Bool := match nodeOf st x with
  | some (.dic _, _, _) => true
  | _ => false
def isNon : T → Bool
  | .non => true
  | _ => false
/-- flat things: those that in compares without looking into them -/
def flatT : T → Bool
  | .non | .bl _ | .int _ | .str _ => true
  | _ => false
/-! ### dicts: their keys in the tag, keys and values by turns -/
mutual
def toK : T → Option NestedKey
  | .non => some .none | .bl b => some (.num (if b = true then 1 else 0)) | .int i => some (.num i) | .str x => some (.text x)
  | .nd .tup .fz xs => match toKs xs with
    | some ks => some (.tup ks)
    | none => none
  | _ => none
def toKs : List T → Option (List NestedKey)
  | [] => some []
  | x :: xs => match toK x, toKs xs with
    | some k, some ks => some (k :: ks)
    | _, _ => none
end
/-- a key: is it a tuple -/
def keyT : T → Option (Bool × NestedKey)
  | .int i => some (false, .num i)
  | .str x => some (false, .text x)
  | .nd .tup .fz xs => match toKs xs with
    | some ks => if (NestedKey.tup ks).depth ≤ 8 then some (true, .tup ks) else none
    | none => none
  | _ => none
def keysT (b : Bool) : List T → Option (List NestedKey)
  | [] => some []
  | k :: _ :: xs => match keyT k, keysT b xs with
    | some (c, k), some ks => if c = b then some (k :: ks) else none
    | _, _ => none
  | [_] => none
/-- what stands at a key -/
def getD {α : Type} (k : NestedKey) : List NestedKey → List α → Option α
  | j :: ks, _ :: v :: vs => if j = k then some v else getD k ks vs
  | _, _ => none
def putD {α : Type} (k : NestedKey) (u v : α) : List NestedKey → List α → List α
  | j :: ks, a :: b :: vs => if j = k then a :: v :: vs else a :: b :: putD k u v ks vs
  | [], _ => [u, v]
  | _ :: _, vs => vs
def putN (k : NestedKey) : List NestedKey → List NestedKey
  | j :: ks => if j = k then j :: ks else j :: putN k ks
  | [] => [k]
def dropD {α : Type} (k : NestedKey) : List NestedKey → List α → List α
  | j :: ks, a :: b :: vs => if j = k then vs else a :: b :: dropD k ks vs
  | _, vs => vs
def dropN (k : NestedKey) : List NestedKey → List NestedKey
  | j :: ks => if j = k then ks else j :: dropN k ks
  | [] => []
/-- the keys -/
def keysD {α : Type} : List α → List α
  | a :: _ :: vs => a :: keysD vs
  | _ => []
/-- more pairs are put -/
def mrgN : List NestedKey → List NestedKey → List NestedKey
  | ks, [] => ks
  | ks, k :: more => mrgN (putN k ks) more
def mrgD {α : Type} : List NestedKey → List α → List NestedKey → List α → List α
  | ks, vs, k :: more, u :: v :: ws => mrgD (putN k ks) (putD k u v ks vs) more ws
  | _, vs, _, _ => vs
/-- pairs, their things by turns -/
def pairsT : List T → Option (List T)
  | [] => some []
  | .nd .tup .fz [a, b] :: xs => (pairsT xs).map fun ys => a :: b :: ys
  | _ => none
mutual
/-- a key's hash, where it has no text in it -/
def hash0 : NestedKey → Option Int
  | .none => some (reduceHash 0xFCA86420)
  | .num i => some (hashInt i)
  | .text _ => none
  | .tup ks => (hash0s ks).map fun hs => reduceHash (Builtin.Tuple.tupleHashOf hs)
def hash0s : List NestedKey → Option (List Int)
  | [] => some []
  | k :: ks => match hash0 k, hash0s ks with
    | some h, some hs => some (h :: hs)
    | _, _ => none
end
/-- no two keys hash alike -/
def apartK (ks : List NestedKey) : Bool := match hash0s ks with
  | some hs => decide hs.Nodup
  | none => false
/-- asked of a dict: what stands at y; none: it may not be asked -/
def askD (ks : List NestedKey) (xs : List T) (y : T) : Option (NestedKey × Option T) := match keyT y with
  | some (b, k) => if keysT b xs = some ks then some (k, getD k ks xs) else none
  | none => none
/-- of two closed things, data -/
def eqDt (x y : T) : Option Bool := match toD (fun _ => none) x, toD (fun _ => none) y with
  | some d, some e => if SeqAt.shaped d && SeqAt.shaped e then some (PyData.eqv d e) else none
  | _, _ => none
/-- are a dict's things the other one's, too -/
def eqHits (ls : List NestedKey) (ys : List T) : List NestedKey → List T → Option Bool
  | [], _ => some true
  | k :: ks, _ :: v :: xs => match getD k ls ys with
    | none => some false
    | some u => match eqDt v u, eqHits ls ys ks xs with
      | some a, some b => some (a && b)
      | _, _ => none
  | _, _ => none
def eqDic (ks ls : List NestedKey) (xs ys : List T) : Option Bool := if keysT true xs = some ks ∧ keysT true ys = some ls then (if ks.length = ls.length then eqHits ls ys ks xs else some false) else none
def eqEl (x y : T) : Option Bool := match x, y with
  | .nd (.dic ks) .fz xs, .nd (.dic ls) .fz ys => if ks.length = ls.length ∧ eqDic ks ls xs ys = some true then some true else none
  | x, y => eqDt x y
def eqTup : List T → List T → Option Bool
  | [], [] => some true
  | x :: xs, y :: ys => match eqEl x y, eqTup xs ys with
    | some a, some b => some (a && b)
    | _, _ => none
  | _, _ => none
def eqN : Option (Tag × Ow × List T) → Option (Tag × Ow × List T) → Option Bool
  | some (.dic ks, o, xs), some (.dic ls, o', ys) => if closedOw o && closedOw o' then eqDic ks ls xs ys else none
  | _, _ => none
/-- tuples with dicts in them -/
def eqTN : Option (Tag × Ow × List T) → Option (Tag × Ow × List T) → Option Bool
  | some (.tup, .fz, xs), some (.tup, .fz, ys) => eqTup xs ys
  | _, _ => none
/-- == of data, of dicts -/
def eqT (st : Store) (x y : T) : Option Bool := match scalT x y with
  | some b => some b
  | none => match dataOf st x, dataOf st y with
    | some d, some e => if SeqAt.shaped d && SeqAt.shaped e then some (PyData.eqv d e) else none
    | _, _ => eqN (nodeOf st x) (nodeOf st y)
def eqF : T → T → Bool
  | .non, .non => true
  | .bl a, .bl b => a == b
  | .bl a, .int b => (if a then 1 else 0) == b
  | .int a, .bl b => a == (if b then 1 else 0)
  | .int a, .int b => a == b
  | .str a, .str b => a == b
  | _, _ => false
/-- x in y -/
def inT (st : Store) (x y : T) : Option Bool := match x, y with
  | .str a, .str b => some (!(Builtin.Str.occurrences b a 0 b.length 1).isEmpty)
  | x, y => match nodeOf st y with
    | some (.lst, _, ys) => if flatT x && ys.all flatT then some (ys.any fun y => eqF y x) else
      match dataOf st x, dataOf st y with
      | some d, some (.list ds) => if SeqAt.shaped d && SeqAt.shaped (.list ds) then some (ds.any fun z => PyData.eqv z d) else none
      | _, _ => none
    | some (.tup, _, ys) => if flatT x && ys.all flatT then some (ys.any fun y => eqF y x) else none
    | some (.dic ks, _, ys) => (askD ks ys x).map fun o => o.2.isSome
    | _ => none
def ltT : T → T → Store → R T
  | .int i, .int j, st => .ok (.bl (decide (i < j))) st
  | _, _, _ => .bad
def leT : T → T → Store → R T
  | .int i, .int j, st => .ok (.bl (decide (i ≤ j))) st
  | _, _, _ => .bad
def gtT : T → T → Store → R T
  | .int i, .int j, st => .ok (.bl (decide (j < i))) st
  | _, _, _ => .bad
def geT : T → T → Store → R T
  | .int i, .int j, st => .ok (.bl (decide (j ≤ i))) st
  | _, _, _ => .bad
def notO (neg b : Bool) : Bool := if neg then !b else b
def eqR (neg : Bool) (x y : T) (st : Store) : R T := match eqT st x y with
  | some b => .ok (.bl (notO neg b)) st
  | none => if neg then .bad else match eqTN (nodeOf st x) (nodeOf st y) with
    | some b => .ok (.bl b) st
    | none => .bad
def isT (neg : Bool) : T → T → Store → R T
  | x, .non, st => .ok (.bl (notO neg (isNon x))) st
  | .bl a, .bl b, st => .ok (.bl (notO neg (decide (a = b)))) st
  | _, _, _ => .bad
def inR (neg : Bool) (x y : T) (st : Store) : R T := match inT st x y with
  | some b => .ok (.bl (notO neg b)) st
  | none => .bad
def cmpop : CmpOp → T → T → Store → R T
  | .Lt => ltT | .LtE => leT | .Gt => gtT | .GtE => geT | .Eq => eqR false | .NotEq => eqR true | .Is => isT false | .IsNot => isT true | .In => inR false | .NotIn => inR true
/-- whole numbers by <, <=, >, >= -/
def icmp : CmpOp → T → T → Option Bool
  | .Lt, .int i, .int j => some (decide (i < j))
  | .LtE, .int i, .int j => some (decide (i ≤ j))
  | .Gt, .int i, .int j => some (decide (j < i))
  | .GtE, .int i, .int j => some (decide (j ≤ i))
  | _, _, _ => none
def idxI (xs : List T) : T → Store → R T
  | .int i, st => R.of (L2.atI xs i) st
  | _, _ => .bad
def idxD (ks : List NestedKey) (xs : List T) (y : T) (st : Store) : R T := match askD ks xs y with
  | some (_, some t) => .ok t st
  | _ => .bad
def idxN (n : Option (Tag × Ow × List T)) (i : T) (st : Store) : R T := match n with
  | some (.lst, _, xs) => idxI xs i st
  | some (.scr, _, xs) => idxI xs i st
  | some (.tup, _, xs) => idxI xs i st
  | some (.dic ks, _, xs) => idxD ks xs i st
  | _ => .bad
def idxS (z : Str) : T → Store → R T
  | .int i, st => if lenOk z.length then R.of ((L2.atI z.cps.toList i).map fun c => .str ⟨#[c]⟩) st else .bad
  | _, _ => .bad
def idxT (x i : T) (st : Store) : R T := match x with
  | .str z => idxS z i st
  | x => idxN (nodeOf st x) i st
def cutT (xs : List T) (lo hi : Option Int) : List T := (xs.drop (HT.sIx xs.length 0 lo)).take (HT.sIx xs.length xs.length hi - HT.sIx xs.length 0 lo)
def slcS (lo hi : Option Int) : T → Store → R T
  | .str z, st => if lenOk z.length then .ok (.str (L2.cutS z lo hi)) st else .bad
  | _, _ => .bad
def slcT (x : T) (lo hi : Option Int) (st : Store) : R T := match nodeOf st x with
  | some (.lst, o, xs) => .ok (.nd .lst (copyOw o) (cutT xs lo hi)) st
  | some (.scr, o, xs) => .ok (.nd .lst (copyOw o) (cutT xs lo hi)) st
  | some (.tup, .fz, xs) => .ok (.nd .tup .fz (cutT xs lo hi)) st
  | _ => slcS lo hi x st
def backT (x : T) (st : Store) : R T := match nodeOf st x with
  | some (.tup, .fz, xs) => .ok (.nd .tup .fz xs.reverse) st
  | _ => .bad
/-- the built-in types of values -/
inductive BT where
  | non | bool | int | str | list | tuple | dict
  deriving DecidableEq
def BT.nm : BT → String
  | .non => "NoneType" | .bool => "bool" | .int => "int" | .str => "str" | .list => "list" | .tuple => "tuple" | .dict => "dict"
def btOf (st : Store) (t : T) : Option BT := match t with
  | .non => some .non
  | .bl _ => some .bool
  | .int _ => some .int
  | .str _ => some .str
  | t => match nodeOf st t with
    | some (.lst, _, _) => some .list
    | some (.tup, _, _) => some .tuple
    | some (.dic _, _, _) => some .dict
    | _ => none
def Ty.bt : Ty → Option BT
  | .int => some .int | .bool => some .bool | .str => some .str | .list => some .list | .tuple => some .tuple | .dict => some .dict
  | _ => none
def isB : BT → BT → Bool
  | .bool, .int => true
  | a, b => decide (a = b)
def isTy (P : Prog) (st : Store) (t : T) (c : Ty) : Option Bool := match c.bt with
  | some b => (btOf st t).map (isB · b)
  | none => match t, c with
    | .exc k, c => some (P.sub k c)
    | t, .own d => (match nodeOf st t with
      | some (.obj e _, _, _) => if e = d then some true else none
      | _ => none)
    | _, _ => none
def isTys (P : Prog) (st : Store) (t : T) : List Ty → Option Bool
  | [] => some false
  | c :: cs => match isTy P st t c with
    | some true => some true
    | some false => isTys P st t cs
    | none => none
def boolsOf : List T → Option (List Bool)
  | [] => some []
  | .bl b :: xs => (boolsOf xs).map (b :: ·)
  | _ => none
def intsOf : List T → Option (List Int)
  | [] => some []
  | .int b :: xs => (intsOf xs).map (b :: ·)
  | _ => none
def strsOf : List T → Option (List Str)
  | [] => some []
  | .str b :: xs => (strsOf xs).map (b :: ·)
  | _ => none
def maxI : List Int → Int
  | [] => 0
  | x :: xs => xs.foldl (fun a b => if a < b then b else a) x
def minI : List Int → Int
  | [] => 0
  | x :: xs => xs.foldl (fun a b => if b < a then b else a) x
def lenN (n : Option (Tag × Ow × List T)) (st : Store) : R T := match n with
  | some (.lst, _, xs) => .ok (.int xs.length) st
  | some (.scr, _, xs) => .ok (.int xs.length) st
  | some (.tup, _, xs) => .ok (.int xs.length) st
  | some (.dic ks, _, _) => .ok (.int ks.length) st
  | _ => .bad
def lenT (x : T) (st : Store) : R T := match x with
  | .str z => if lenOk z.length then .ok (.int z.length) st else .bad
  | x => lenN (nodeOf st x) st
def intT : T → Store → R T
  | .int i, st => .ok (.int i) st
  | .bl b, st => .ok (.int (if b then 1 else 0)) st
  | .str a, st => match PySem.intText? a with
    | some n => if a.length ≤ 640 then .ok (.int n) st else .bad
    | none => .bad
  | _, _ => .bad
def strT : T → Store → R T
  | .int i, st => if i.natAbs.log2 < 1920 then .ok (.str (toString i)) st else .bad
  | _, _ => .bad
def absT : T → Store → R T
  | .int i, st => .ok (.int (if i < 0 then -i else i)) st
  | _, _ => .bad
def alkB (d e : PyData) : Bool := ((PySem.W.alike d d && PySem.W.alike d e) && (PySem.W.alike e d && PySem.W.alike e e)) && (decide (d.depth ≤ 30) && decide (e.depth ≤ 30))
/-- the greater of two tuples -/
def maxP (xs ys : List T) (st : Store) : R T := match toDs (fun _ => none) xs, toDs (fun _ => none) ys with
  | some ds, some es => if alkB (.tuple ds) (.tuple es) then .ok (.nd .tup .fz (if PySem.W.dataLt (.tuple ds) (.tuple es) then ys else xs)) st else .bad
  | _, _ => .bad
def maxT : T → T → Store → R T
  | .int i, .int j, st => .ok (.int (if j > i then j else i)) st
  | .nd .tup .fz xs, .nd .tup .fz ys, st => maxP xs ys st
  | _, _, _ => .bad
def minT : T → T → Store → R T
  | .int i, .int j, st => .ok (.int (if j < i then j else i)) st
  | _, _, _ => .bad
def lsqOf (st : Store) (t : T) : Option (List T) := match nodeOf st t with
  | some (.lst, _, xs) => some xs
  | some (.tup, _, xs) => some xs
  | _ => none
def sumT (x : T) (st : Store) : R T := R.of (((lsqOf st x).bind intsOf).map fun ns => .int ns.sum) st
def maxLI (x : T) (ns : List Int) (st : Store) : R T := if 0 < ns.length then .ok (.int (maxI ns)) st else .bad
def minLI (x : T) (ns : List Int) (st : Store) : R T := if 0 < ns.length then .ok (.int (minI ns)) st else .bad
def maxLT (x : T) (st : Store) : R T := match (lstOf st x).bind intsOf with
  | some ns => maxLI x ns st
  | none => .bad
def minLT (x : T) (st : Store) : R T := match (lsqOf st x).bind intsOf with
  | some ns => minLI x ns st
  | none => .bad
/-- min(list, default=None) -/
def minDT (x : T) (st : Store) : R T := match (lstOf st x).bind intsOf with
  | some [] => .ok .non st
  | some (n :: ns) => .ok (.int (minI (n :: ns))) st
  | none => .bad
def allT (x : T) (st : Store) : R T := R.of (((lstOf st x).bind boolsOf).map fun ns => .bl (ns.all id)) st
def anyT (x : T) (st : Store) : R T := R.of (((lstOf st x).bind boolsOf).map fun ns => .bl (ns.any id)) st
def listT (x : T) (st : Store) : R T := match nodeOf st x with
  | some (.lst, o, xs) => .ok (.nd .lst (copyOw o) xs) st
  | some (.scr, o, xs) => .ok (.nd .lst (copyOw o) xs) st
  | some (.tup, o, xs) => .ok (.nd .lst (copyOw o) xs) st
  | some (.dic ks, _, xs) => match keysT true xs with
    | some _ => .ok (.nd .lst .own (keysD xs)) st
    | none => match keysT false xs with
      | some _ => .ok (.nd .lst .own (keysD xs)) st
      | none => .bad
  | _ => .bad
def tupleT (x : T) (st : Store) : R T := match nodeOf st x with
  | some (.lst, o, xs) => if closedOw o then .ok (.nd .tup .fz xs) st else .bad
  | some (.tup, .fz, xs) => .ok (.nd .tup .fz xs) st
  | _ => .bad
def tupNe : PyData → Bool
  | .tuple (_ :: _) => true
  | _ => false
def sortAtom : PyData → Bool
  | .none => false
  | .tuple _ => false
  | _ => true
/-- these can be sorted -/
def sortOk (ds : List PyData) : Bool := (ds.all fun d => ds.all fun e => PySem.W.alike d e) && (ds.all tupNe || ds.all sortAtom) && ds.all fun d => decide (d.depth ≤ 64)
def sortLe (a b : T × PyData) : Bool := !PySem.W.dataLt b.2 a.2
def sortT (x : T) (st : Store) : R T := match nodeOf st x with
  | some (.lst, o, xs) => (match toDs (fun _ => none) xs with
    | some ds => if closedOw o && sortOk ds && lenOk xs.length then .ok (.nd .lst .own (((xs.zip ds).mergeSort sortLe).map (·.1))) st else .bad
    | none => .bad)
  | _ => .bad
/-- dict(pairs), dict(d) -/
def dictT (x : T) (st : Store) : R T := match nodeOf st x with
  | some (.lst, o, xs) => match pairsT xs with
    | some ys => match keysT true ys with
      | some ks => if closedOw o && lenOk ks.length then .ok (.nd (.dic (mrgN [] ks)) .own (mrgD [] [] ks ys)) st else .bad
      | none => .bad
    | none => .bad
  | some (.dic ks, o, xs) => if closedOw o && (decide (keysT false xs = some ks) || (decide (keysT true xs = some ks) && apartK ks)) then .ok (.nd (.dic ks) .own xs) st else .bad
  | _ => .bad
def divmodT (x y : T) (st : Store) : R T := match x, y with
  | .int i, .int j => if decide (0 < j) && decide (j.natAbs.log2 < 9000) then .ok (.nd .tup .fz [.int (i / j), .int (i % j)]) st else .bad
  | _, _ => .bad
/-- keys and values by turns -/
def pairsX : List PyData → Option (List (PyData × PyData))
  | [] => some []
  | k :: v :: ds => (pairsX ds).map ((k, v) :: ·)
  | [_] => none
mutual
/-- data, dicts with them -/
def toX (look : Nat → Option PyData) : T → Option PyData
  | .non => some .none
  | .bl b => some (.bool b)
  | .int i => some (.int i)
  | .str x => some (.str x)
  | .exc _ => none
  | .ref k => look k
  | .nd .lst _ xs => (toXs look xs).map .list
  | .nd .tup _ xs => (toXs look xs).map .tuple
  | .nd (.dic _) _ xs => ((toXs look xs).bind pairsX).map .dict
  | .nd _ _ _ => none
def toXs (look : Nat → Option PyData) : List T → Option (List PyData)
  | [] => some []
  | x :: xs => match toX look x, toXs look xs with
    | some d, some ds => some (d :: ds)
    | _, _ => none
end
def lookX (st : Store) : Nat → Nat → Option PyData
  | 0, _ => none
  | d + 1, k => match st[k]? with
    | some t => toX (lookX st d) t
    | none => none
def dataX (st : Store) (t : T) : Option PyData := toX (lookX st 4) t
/-- repr -/
def reprT (x : T) (st : Store) : R T := match dataX st x with
  | some d => if d.showable && (lenOk d.shown.length && decide (d.depth ≤ 60)) then .ok (.str d.shown) st else .bad
  | none => .bad
def on1 (f : T → Store → R T) : List T → Store → R T
  | [x], st => f x st
  | _, _ => .bad
def on2 (f : T → T → Store → R T) : List T → Store → R T
  | [x, y], st => f x y st
  | _, _ => .bad
def biop : Bi → List T → Store → R T
  | .len => on1 lenT | .int => on1 intT | .str => on1 strT | .abs => on1 absT | .max2 => on2 maxT | .min2 => on2 minT | .maxL => on1 maxLT | .minL => on1 minLT | .sum => on1 sumT | .all => on1 allT | .any => on1 anyT | .list => on1 listT | .tuple => on1 tupleT | .sorted => on1 sortT | .divmod => on2 divmodT | .repr => on1 reprT | .dict => on1 dictT
  | _ => fun _ _ => .bad
/-- a method of the cell k -/
def bmop (m : Bm) (k : Nat) (xs : List T) (st : Store) : R T := match m, xs with
  | .append, [x] => (match fz x st with
    | some (x, st) => (match st[k]? with
      | some (.nd .lst .own ys) => if ys.length < sizeLine then .ok .non (st.set k (.nd .lst .own (ys ++ [x]))) else .bad
      | some (.nd .lst .opn ys) => if ys.length < sizeLine then .ok .non (st.set k (.nd .lst .opn (ys ++ [x]))) else .bad
      | _ => .bad)
    | none => .bad)
  | .extend, [x] => (match nodeOf st x with
    | some (.lst, o, xs) => (match st[k]? with
      | some (.nd .lst .own ys) => if lenOk (ys.length + xs.length) && closedOw o then .ok .non (st.set k (.nd .lst .own (ys ++ xs))) else .bad
      | some (.nd .lst .opn ys) => if lenOk (ys.length + xs.length) && closedOw o then .ok .non (st.set k (.nd .lst .opn (ys ++ xs))) else .bad
      | _ => .bad)
    | some (.tup, o, xs) => (match st[k]? with
      | some (.nd .lst .own ys) => if lenOk (ys.length + xs.length) && closedOw o then .ok .non (st.set k (.nd .lst .own (ys ++ xs))) else .bad
      | some (.nd .lst .opn ys) => if lenOk (ys.length + xs.length) && closedOw o then .ok .non (st.set k (.nd .lst .opn (ys ++ xs))) else .bad
      | _ => .bad)
    | _ => .bad)
  | .clear, [] => (match st[k]? with
    | some (.nd .lst .own _) => .ok .non (st.set k (.nd .lst .own []))
    | some (.nd .lst .opn _) => .ok .non (st.set k (.nd .lst .own []))
    | _ => .bad)
  | .pop0, [] => (match st[k]? with
    | some (.nd .lst .own ys) => (match ys[ys.length - 1]? with
      | some y => .ok y (st.set k (.nd .lst .own ys.dropLast))
      | none => .bad)
    | _ => .bad)
  | .pop1, [.int i] => (match st[k]? with
    | some (.nd .lst .own ys) => (match seqIndex? i ys.length with
      | some j => (match ys[j]? with
        | some y => if decide (-(2 ^ 63) ≤ i) && decide (i < 2 ^ 63) then .ok y (st.set k (.nd .lst .own (ys.eraseIdx j))) else .bad
        | none => .bad)
      | none => .bad)
    | _ => .bad)
  | .insert, [.int i, x] => (match fz x st with
    | some (x, st) => (match st[k]? with
      | some (.nd .lst .own ys) => if decide (ys.length < sizeLine) && decide (0 ≤ i) && decide (i < 2 ^ 63) then .ok .non (st.set k (.nd .lst .own (ys.take i.toNat ++ [x] ++ ys.drop i.toNat))) else .bad
      | _ => .bad)
    | none => .bad)
  | .remove, [x] => (match st[k]? with
    | some (.nd .lst .own ys) => (match toDs (fun _ => none) ys, toD (fun _ => none) x with
      | some ds, some d => (match SeqAt.dataPlace ds d with
        | some j => if (PyData.plainAll ds && d.plain) && decide (d.depth ≤ 60) then .ok .non (st.set k (.nd .lst .own (ys.eraseIdx j))) else .bad
        | none => .bad)
      | _, _ => .bad)
    | _ => .bad)
  | _, _ => .bad
/-- list.index -/
def ixOfT (x : T) (xs : List T) (st : Store) : R T := match xs with
  | [y] => (match dataOf st x, dataOf st y with
    | some (.list ds), some d => (match SeqAt.dataPlace ds d with
      | some j => if SeqAt.shaped (.list ds) && SeqAt.shaped d then .ok (.int j) st else .bad
      | none => .bad)
    | _, _ => .bad)
  | _ => .bad
def cntT (x : T) (xs : List T) (st : Store) : R T := match xs with
  | [.int k] => R.of (((lstOf st x).bind intsOf).map fun ns => .int (ns.count k)) st
  | [.bl b] => R.of (((lstOf st x).bind boolsOf).map fun bs => .int (bs.count b : Nat)) st
  | _ => .bad
def bmR (m : Bm) (x : T) (xs : List T) (st : Store) : R T := match m with
  | .count => cntT x xs st
  | .index => ixOfT x xs st
  | _ => (match x with
    | .ref k => bmop m k xs st
    | _ => .bad)
def bmOk : Bm → Bool
  | .append | .extend | .clear | .count | .pop0 | .pop1 | .insert | .remove | .index => true
  | _ => false
/-- a method of a text -/
def splitS (a : Str) : List T → Store → R T
  | [.str b], st => if !(b.length == 0) && decide (a.length + 2 ≤ sizeLine) then .ok (.nd .lst .own ((Txt.split a b).map .str)) st else .bad
  | _, _ => .bad
def lenSum (ys : List Str) : Nat := (ys.map (·.length)).sum
def joinS (a : Str) : List T → Store → R T
  | [x], st => match (lsqOf st x).bind strsOf with
    | some ys => if lenSum ys + ys.length * a.length ≤ 16777216 then .ok (.str (Txt.join a ys)) st else .bad
    | none => .bad
  | _, _ => .bad
def bsR (m : Bm) (x : T) (xs : List T) (st : Store) : R T := match m, x with
  | .split, .str a => splitS a xs st
  | .join, .str a => joinS a xs st
  | _, _ => .bad
def bdOk : Bm → Bool
  | .popd | .cleard | .getd => true
  | _ => false
/-- a method of a dict -/
def bdR (m : Bm) (x : T) (xs : List T) (st : Store) : R T := match m, x, xs with
  | .popd, .ref k, [y] => (match st[k]? with
    | some (.nd (.dic ks) .own ys) => (match askD ks ys y with
      | some (j, some v) => .ok v (st.set k (.nd (.dic (dropN j ks)) .own (dropD j ks ys)))
      | _ => .bad)
    | _ => .bad)
  | .cleard, .ref k, [] => (match st[k]? with
    | some (.nd (.dic _) .own _) => .ok .non (st.set k (.nd (.dic []) .own []))
    | _ => .bad)
  | .getd, x, [y] => (match nodeOf st x with
    | some (.dic ks, _, ys) => (match askD ks ys y with
      | some (_, some v) => .ok v st
      | some (_, none) => .ok .non st
      | none => .bad)
    | _ => .bad)
  | _, _, _ => .bad
def isStrT : T → Bool
  | .str _ => true
  | _ => false
def bsOk : Bm → Bool
  | .join | .split => true
  | _ => false
def isLst (st : Store) (x : T) : Bool := match nodeOf st x with
  | some (.lst, _, _) => true
  | _ => false
/-- o[i] = t -/
def setT (x i t : T) (st : Store) : R T := match x, i with
  | .ref k, .int i => (match fz t st with
    | some (t, st) => (match st[k]? with
      | some (.nd .lst .own ys) => (match L2.ixN ys.length i with
        | some j => .ok .non (st.set k (.nd .lst .own (ys.set j t)))
        | none => .bad)
      | some (.nd (.dic ks) .own ys) => if keysT false ys = some ks ∧ ks.length < sizeLine then .ok .non (st.set k (.nd (.dic (putN (.num i) ks)) .own (putD (.num i) (.int i) t ks ys))) else .bad
      | _ => .bad)
    | none => .bad)
  | .ref k, y => (match fz t st with
    | some (t, st) => (match st[k]? with
      | some (.nd (.dic ks) .own ys) => (match keyT y with
        | some (b, j) => if keysT b ys = some ks ∧ ks.length < sizeLine then .ok .non (st.set k (.nd (.dic (putN j ks)) .own (putD j y t ks ys))) else .bad
        | none => .bad)
      | _ => .bad)
    | none => .bad)
  | _, _ => .bad
/-- of a list alone -/
def setTL (x i t : T) (st : Store) : R T := match x, i with
  | .ref k, .int i => (match fz t st with
    | some (t, st) => (match st[k]? with
      | some (.nd .lst .own ys) => (match L2.ixN ys.length i with
        | some j => .ok .non (st.set k (.nd .lst .own (ys.set j t)))
        | none => .bad)
      | _ => .bad)
    | none => .bad)
  | _, _ => .bad
def unlockOw : Ow → Ow
  | .lk => .own | .lkx => .opn | o => o
def unlock : List Nat → Store → Store
  | [], st => st
  | k :: ks, st => match st[k]? with
    | some (.nd g o xs) => unlock ks (st.set k (.nd g (unlockOw o) xs))
    | _ => unlock ks st
/-- what is walked: its things, whether they are closed, the cell that is locked -/
def charsT (z : Str) : List T := z.cps.toList.map fun c => .str ⟨#[c]⟩
/-- no own things in it -/
def flat0 : T → Bool
  | .nd _ .own _ => false
  | .nd _ .opn _ => false
  | _ => true
def walked (t : T) (st : Store) : Option (List T × Bool × List Nat × Store) := match t with
  | .nd .lst .fz xs => some (xs, true, [], st)
  | .nd .scr .fz xs => some (xs, true, [], st)
  | .nd .tup .fz xs => some (xs, true, [], st)
  | .nd .lst .own xs => some (xs, true, [], st)
  | .nd .lst .opn xs => if xs.all flat0 then some (xs, false, [], st) else none
  | .ref k => match st[k]? with
    | some (.nd .lst .own xs) => some (xs, true, [k], st.set k (.nd .lst .lk xs))
    | some (.nd .lst .opn xs) => some (xs, false, [k], st.set k (.nd .lst .lkx xs))
    | some (.nd .lst .fz xs) => some (xs, true, [], st)
    | some (.nd .lst .lk xs) => some (xs, true, [], st)
    | some (.nd .lst .lkx xs) => some (xs, false, [], st)
    | _ => none
  | _ => none
/-- a dict that is walked: its keys, the cell that is locked -/
def walkD (t : T) (st : Store) : Option (List T × List Nat × Store) := match t with
  | .nd (.dic ks) .fz xs => if keysT true xs = some ks ∨ keysT false xs = some ks then some (keysD xs, [], st) else none
  | .nd (.dic ks) .own xs => if keysT true xs = some ks ∨ keysT false xs = some ks then some (keysD xs, [], st) else none
  | .ref k => match st[k]? with
    | some (.nd (.dic ks) .own xs) => if keysT true xs = some ks ∨ keysT false xs = some ks then some (keysD xs, [k], st.set k (.nd (.dic ks) .lk xs)) else none
    | some (.nd (.dic ks) .fz xs) => if keysT true xs = some ks ∨ keysT false xs = some ks then some (keysD xs, [], st) else none
    | some (.nd (.dic ks) .lk xs) => if keysT true xs = some ks ∨ keysT false xs = some ks then some (keysD xs, [], st) else none
    | _ => none
  | _ => none
def seqW (x : T) (st : Store) : R (List T × List Nat) := match x with
  | .str z => .ok (charsT z, []) st
  | x => if dicB st x then (match walkD x st with
    | some (xs, ks, st) => .ok (xs, ks) st
    | none => .bad) else match walked x st with
    | some (xs, _, ks, st) => .ok (xs, ks) st
    | none => .bad
def listB (st : Store) (x : T) : Bool := match nodeOf st x with
  | some (.lst, _, _) => true
  | some (.scr, _, _) => true
  | _ => false
def tupB (st : Store) (x : T) : Bool := match nodeOf st x with
  | some (.tup, _, _) => true
  | _ => false
def pairT (c : Bool) (xs : List T) : T := .nd .tup (if c then .fz else .fzr) xs
def enumT (c : Bool) : Nat → List T → List T
  | _, [] => []
  | n, x :: xs => pairT c [.int n, x] :: enumT c (n + 1) xs
def zipT (c : Bool) : List T → List T → List T
  | x :: xs, y :: ys => pairT c [x, y] :: zipT c xs ys
  | _, _ => []
def zip3T (c : Bool) : List T → List T → List T → List T
  | x :: xs, y :: ys, z :: zs => pairT c [x, y, z] :: zip3T c xs ys zs
  | _, _, _ => []
def rngT (lo : Int) : Nat → List T
  | 0 => []
  | n + 1 => .int lo :: rngT (lo + 1) n
/-- downwards -/
def dnT (lo : Int) : Nat → List T
  | 0 => []
  | n + 1 => .int lo :: dnT (lo - 1) n
def rngOk (i j : Int) : Bool := lenOk (j - i).toNat
/-- ends that are words -/
def rngW (i j : Int) : Bool := decide (-(2 ^ 62) ≤ i) && decide (i < 2 ^ 62) && decide (-(2 ^ 62) ≤ j) && decide (j < 2 ^ 62) && lenOk (j - i).toNat
mutual
def Tg.vars : Tg → List Nat
  | .name i => [i]
  | .tup ts => varsL ts
def varsL : List Tg → List Nat
  | [] => []
  | t :: ts => t.vars ++ varsL ts
end
def wipeS (sl : Slots) : List Nat → Slots
  | [] => sl
  | v :: vs => (wipeS sl vs).set v none
mutual
/-- a value (no own one) goes to a target -/
def bindT (st : Store) : Tg → T → Slots → Option Slots
  | .name i, t, sl => some (sl.set i (some t))
  | .tup ts, t, sl => match lsqOf st t with
    | some xs => bindL st ts xs sl
    | none => none
def bindL (st : Store) : List Tg → List T → Slots → Option Slots
  | [], [], sl => some sl
  | t :: ts, x :: xs, sl => match bindT st t x sl with
    | some sl1 => bindL st ts xs sl1
    | none => none
  | _, _, _ => none
end
def compGo (f : T → Store → R (Option T)) : List T → Store → R (List T)
  | [], st => .ok [] st
  | x :: xs, st => (f x st).bind fun o st1 => (compGo f xs st1).bind fun ys st2 => .ok (match o with
    | some y => y :: ys
    | none => ys) st2
def noX {α : Type} : R α → R α
  | .exc _ _ => .bad
  | r => r
def compP (x : Bool) (y : T) (st : Store) : R (Option T) := if x then .ok (some y) st else match fz y st with
  | some (y, st) => .ok (some y) st
  | none => .bad
def compB (ev : Store → R T) (x : Bool) (b : T) (st : Store) : R (Option T) := match b with
  | .bl false => .ok none st
  | .bl true => (noX (ev st)).bind fun y st => compP x y st
  | _ => .bad
def compF (evc eve : Slots → Store → R T) (x : Bool) (tg : Tg) (sl : Slots) (t : T) (st : Store) : R (Option T) := match bindT st tg t sl with
  | some sl => (noX (evc sl st)).bind fun b st => compB (eve sl) x b st
  | none => .bad
/-- no cell, nothing with cells -/
def leafT : T → Bool
  | .ref _ => false
  | .nd _ .opn _ => false
  | .nd _ .fzr _ => false
  | _ => true
/-- the things of a tuple that is told: new cells of closed things are one's own again -/
def loadL (n : Nat) (st : Store) : List Nat → List T → Option (List T)
  | _, [] => some []
  | used, .ref k :: xs => if k < n ∨ k ∈ used then none else match st[k]? with
    | some (.nd g .own ys) => (loadL n st (k :: used) xs).map (T.nd g .own ys :: ·)
    | _ => none
  | used, x :: xs => if leafT x then (loadL n st used xs).map (x :: ·) else none
/-- a call's end over n cells: the new ones are gone -/
def leaveT (n : Nat) (t : T) (st : Store) : R T := match t with
  | .ref k => if k < n then .ok t (st.take n) else (match st[k]? with
    | some (.nd g .own xs) => .ok (.nd g .own xs) (st.take n)
    | some (.nd g .fz xs) => .ok (.nd g .fz xs) (st.take n)
    | some (.nd g .opn xs) => (match loadL n st [k] xs with
      | some ys => .ok (.nd g .opn ys) (st.take n)
      | none => .bad)
    | _ => .bad)
  | .nd g .opn xs => match loadL n st [] xs with
    | some ys => .ok (.nd g .opn ys) (st.take n)
    | none => .bad
  | .nd _ .fzr _ => .bad
  | t => .ok t (st.take n)
/-- C(..): the new instance stands in the last cell -/
def madeT (n : Nat) (st : Store) : R T := match st[n]? with
  | some (.nd (.obj c fn) .own xs) => .ok (.nd (.obj c fn) .own xs) (st.take n)
  | _ => .bad
def fzR (t : T) (st : Store) : R T := match fz t st with
  | some (t, st) => .ok t st
  | none => .bad
def fzaR (t : T) (st : Store) : R T := match fza t st with
  | some (t, st) => .ok t st
  | none => .bad
def fzsR (ts : List T) (st : Store) : R (List T) := match fzs ts st with
  | some (t, st) => .ok t st
  | none => .bad
def fzasR : List T → Store → R (List T)
  | [], st => .ok [] st
  | t :: ts, st => (fzaR t st).bind fun t st => (fzasR ts st).bind fun ts st => .ok (t :: ts) st
def classOf (st : Store) (t : T) : Option Nat := match nodeOf st t with
  | some (.obj c _, _, _) => some c
  | _ => none
def fldT (t : T) (f : Str) (st : Store) : R T := match nodeOf st t with
  | some (.obj _ fn, _, xs) => R.of ((fn.zip xs).lookup f) st
  | _ => .bad
def isNop : E → Bool
  | .nop => true
  | _ => false
def partOf : Bool → T → Option (Option Int)
  | true, _ => some none
  | false, .int i => some (some i)
  | _, _ => none
/-- {x: y} -/
def disT (x y : T) (st : Store) : R T := match keyT x with
  | some (_, j) => .ok (.nd (.dic [j]) .own [x, y]) st
  | none => .bad
section
variable (P : Prog) (call : Nat → List T → Store → R T)
mutual
def evE : E → Slots → Store → R T
  | .lit t, _, st => .ok t st
  | .glb _ t, _, st => .ok t st
  | .var i, sl, st => match sl[i]? with
    | some (some t) => .ok t st
    | _ => .bad
  | .bin op a b, sl, st => (evE a sl st).bind fun x st => (evE b sl st).bind fun y st => binop op x y st
  | .neg a, sl, st => (evE a sl st).bind fun x st => match x with
    | .int i => .ok (.int (-i)) st
    | _ => .bad
  | .not a, sl, st => (evE a sl st).bind fun x st => match x with
    | .bl b => .ok (.bl (!b)) st
    | _ => .bad
  | .cmp op a b, sl, st => (evE a sl st).bind fun x st => (evE b sl st).bind fun y st => cmpop op x y st
  | .chain op op' a b c, sl, st => (evE a sl st).bind fun x st => (evE b sl st).bind fun y st => match icmp op x y with
    | some true => (evE c sl st).bind fun z st => R.of ((icmp op' y z).map .bl) st
    | some false => .ok (.bl false) st
    | none => .bad
  | .and a b, sl, st => (evE a sl st).bind fun x st => match x with
    | .bl true => evE b sl st
    | .bl false => .ok (.bl false) st
    | _ => .bad
  | .or a b, sl, st => (evE a sl st).bind fun x st => match x with
    | .bl true => .ok (.bl true) st
    | .bl false => evE b sl st
    | _ => .bad
  | .ife c a b, sl, st => (evE c sl st).bind fun x st => match x with
    | .bl true => evE a sl st
    | .bl false => evE b sl st
    | _ => .bad
  | .tup es, sl, st => (evEs es sl st).bind fun xs st => (fzsR xs st).bind fun xs st => if lenOk xs.length then .ok (.nd .tup .fz xs) st else .bad
  | .tupX es, sl, st => (evEs es sl st).bind fun xs st => if lenOk xs.length then .ok (.nd .tup .opn xs) st else .bad
  | .lst es, sl, st => (evEs es sl st).bind fun xs st => (fzsR xs st).bind fun xs st => if lenOk xs.length then .ok (.nd .lst .own xs) st else .bad
  | .lstX es, sl, st => (evEs es sl st).bind fun xs st => if lenOk xs.length then .ok (.nd .lst .opn xs) st else .bad
  | .dic .nil .nil, _, st => .ok (.nd (.dic []) .own []) st
  | .dic _ _, _, _ => .bad
  | .dis k v, sl, st => (evE k sl st).bind fun x st => (evE v sl st).bind fun y st => (fzR y st).bind fun y st => disT x y st
  | .idx a b, sl, st => (evE a sl st).bind fun x st => (evE b sl st).bind fun y st => idxT x y st
  | .slc a lo hi, sl, st => (evE a sl st).bind fun x st => (evE lo sl st).bind fun l st => match partOf (isNop lo) l with
    | some l => (evE hi sl st).bind fun h st => match partOf (isNop hi) h with
      | some h => slcT x l h st
      | none => .bad
    | none => .bad
  | .back a, sl, st => (evE a sl st).bind fun x st => backT x st
  | .lrng a, sl, st => (evE a sl st).bind fun x st => match x with
    | .int j => if rngW 0 j then .ok (.nd .lst .own (rngT 0 j.toNat)) st else .bad
    | _ => .bad
  | .minD a, sl, st => (evE a sl st).bind fun x st => minDT x st
  | .nop, _, st => .ok .non st
  | .call f es, sl, st => (evEs es sl st).bind fun xs st => (fzasR xs st).bind fun xs st => call f xs st
  | .make c es, sl, st => match P.inits.lookup c with
    | some f => (evEs es sl st).bind fun xs st => (fzasR xs st).bind fun xs st => (call (mkBase + f) (.ref st.length :: xs) (st ++ [.nd (.obj c []) .own []])).bind fun r st' => match r with
      | .non => madeT st.length st'
      | _ => .bad
    | none => .bad
  | .meth m o es, sl, st => (evE o sl st).bind fun x st => (fzaR x st).bind fun x st => match classOf st x with
    | some c => match P.meths.lookup (c, m) with
      | some f => (evEs es sl st).bind fun xs st => (fzasR xs st).bind fun xs st => call f (x :: xs) st
      | none => .bad
    | none => .bad
  | .fld o f, sl, st => (evE o sl st).bind fun x st => fldT x f st
  | .bi b es, sl, st => (evEs es sl st).bind fun xs st => biop b xs st
  | .isi a cs, sl, st => (evE a sl st).bind fun x st => match isTys P st x cs with
    | some b => .ok (.bl b) st
    | none => .bad
  | .bm m o es, sl, st => if bmOk m then (evE o sl st).bind fun x st => if isLst st x then (evEs es sl st).bind fun xs st => bmR m x xs st else .bad else if bsOk m then (evE o sl st).bind fun x st => if isStrT x then (evEs es sl st).bind fun xs st => bsR m x xs st else .bad else if bdOk m then (evE o sl st).bind fun x st => if dicB st x then (evEs es sl st).bind fun xs st => bdR m x xs st else .bad else .bad
  | .comp elt x tg it c, sl, st => (evIt it sl st).bind fun w st => if lenOk w.1.length then
    (compGo (compF (fun sl st => evE c sl st) (fun sl st => evE elt sl st) x tg (wipeS sl tg.vars)) w.1 st).bind fun ys st => .ok (.nd .lst (if x then .opn else .own) ys) (unlock w.2 st) else .bad
  | .keep d e, sl, st => (evE e sl st).bind fun x st => match kp d x st with
    | some (t, st) => .ok t st
    | none => .bad
def evEs : Es → Slots → Store → R (List T)
  | .nil, _, st => .ok [] st
  | .cons e es, sl, st => (evE e sl st).bind fun x st => (evEs es sl st).bind fun xs st => .ok (x :: xs) st
/-- what is walked, the locked cells -/
def evIt : It → Slots → Store → R (List T × List Nat)
  | .seq e, sl, st => (evE e sl st).bind fun x st => seqW x st
  | .rng1 a, sl, st => (evE a sl st).bind fun x st => match x with
    | .int j => if rngOk 0 j then .ok (rngT 0 j.toNat, []) st else .bad
    | _ => .bad
  | .rng2 a b, sl, st => (evE a sl st).bind fun x st => (evE b sl st).bind fun y st => match x, y with
    | .int i, .int j => if rngOk i j then .ok (rngT i (j - i).toNat, []) st else .bad
    | _, _ => .bad
  | .rng3 a b c, sl, st => (evE a sl st).bind fun x st => (evE b sl st).bind fun y st => (evE c sl st).bind fun z st => match x, y, z with
    | .int i, .int j, .int k => if decide (k = -1) && rngW j i then .ok (dnT i (i - j).toNat, []) st else .bad
    | _, _, _ => .bad
  | .enum e, sl, st => (evE e sl st).bind fun x st => if listB st x then (match walked x st with
    | some (xs, c, ks, st) => .ok (enumT c 0 xs, ks) st
    | none => .bad) else .bad
  | .zip2 a b, sl, st => (evE a sl st).bind fun x st => (evE b sl st).bind fun y st => if (listB st x && listB st y) || (tupB st x && tupB st y) || (tupB st x && listB st y) then (match walked x st with
    | some (xs, c, ks, st) => (match walked y st with
      | some (ys, c', ks', st) => .ok (zipT (c && c') xs ys, ks ++ ks') st
      | none => .bad)
    | none => .bad) else .bad
  | .zip3 a b c, sl, st => (evE a sl st).bind fun x st => (evE b sl st).bind fun y st => (evE c sl st).bind fun z st => if (listB st x && listB st y && listB st z) || (tupB st x && tupB st y && tupB st z) then (match walked x st with
    | some (xs, cc, ks, st) => (match walked y st with
      | some (ys, cc', ks', st) => (match walked z st with
        | some (zs, cc'', ks'', st) => .ok (zip3T (cc && cc' && cc'') xs ys zs, ks ++ ks' ++ ks'') st
        | none => .bad)
      | none => .bad)
    | none => .bad) else .bad
  | .rev e, sl, st => (evE e sl st).bind fun x st => if listB st x || tupB st x then (match walked x st with
    | some (xs, _, ks, st) => .ok (xs.reverse, ks) st
    | none => .bad) else .bad
  | .items _, _, _ => .bad
end
end
/-- how a statement ends -/
inductive RS where
  | nx (sl : Slots) (st : Store) | rt (t : T) (st : Store) | exc (c : Nat) (sl : Slots) (st : Store) | bad
@[simp] def RS.of {α : Type} (sl : Slots) : R α → (α → Store → RS) → RS
  | .ok a st, f => f a st
  | .exc c st, _ => .exc c sl st
  | .bad, _ => .bad
@[simp] def RS.thn : RS → (Slots → Store → RS) → RS
  | .nx sl st, f => f sl st
  | .rt t st, _ => .rt t st
  | .exc c sl st, _ => .exc c sl st
  | .bad, _ => .bad
def RS.unlock (ks : List Nat) : RS → RS
  | .nx sl st => .nx sl (PC.unlock ks st)
  | .rt t st => .rt t (PC.unlock ks st)
  | .exc c sl st => .exc c sl (PC.unlock ks st)
  | .bad => .bad
def forF (b : Slots → Store → RS) (tg : Tg) (t : T) (sl : Slots) (st : Store) : RS := match bindT st tg t sl with
  | some sl => b sl st
  | none => .bad
def forGo (f : T → Slots → Store → RS) : List T → Slots → Store → RS
  | [], sl, st => .nx sl st
  | x :: xs, sl, st => (f x sl st).thn fun sl st => forGo f xs sl st
def whlGo (c : Slots → Store → R T) (f : Slots → Store → RS) : Nat → Slots → Store → RS
  | 0, _, _ => .bad
  | n + 1, sl, st => RS.of sl (c sl st) fun b st => match b with
    | .bl true => (f sl st).thn fun sl st => whlGo c f n sl st
    | .bl false => .nx sl st
    | _ => .bad
def setF (f : Str) (t : T) : List Str → List T → List Str × List T
  | g :: gs, x :: xs => if f = g then (g :: gs, t :: xs) else let r := setF f t gs xs; (g :: r.1, x :: r.2)
  | _, _ => ([f], [t])
def setFld (P : Prog) (x : T) (f : Str) (t : T) (st : Store) : R T := match x with
  | .ref k => (match fz t st with
    | some (t, st) => (match st[k]? with
      | some (.nd (.obj c fn) .own xs) => if fn.length < 1000 && P.flds.any (fun q => decide (q = (c, f))) then .ok .non (st.set k (.nd (.obj c (setF f t fn xs).1) .own (setF f t fn xs).2)) else .bad
      | _ => .bad)
    | none => .bad)
  | _ => .bad
/-! ### in an except suite: i the exception's place, sb: is it one of -/
/-- the places of the truths -/
def picks (bs : List Bool) : List T := ((List.range bs.length).filter fun i => bs[i]? == some true).map fun i : Nat => T.int (i : Int)
def hbmOk : Bm → Bool
  | .append | .count | .index => true
  | _ => false
/-- [k for k in range(n) if o[k]], within an except suite -/
def hComp (i : Nat) (e : E) (x : Bool) (tg : Tg) (it : It) (c : E) (sl : Slots) (st : Store) : R T := match e, x, tg, it, c with
  | .var k, false, .name k1, .rng1 (.lit (.int n)), .idx (.var j) (.var k2) => if (k = k1 ∧ k = k2) ∧ (k ≠ i ∧ j ≠ i ∧ j ≠ k) ∧ (0 ≤ n ∧ n ≤ 100) then (match sl[j]? with
    | some (some t) => (match (lstOf st t).bind boolsOf with
      | some bs => if bs.length = n.toNat then .ok (.nd .lst .own (picks bs)) st else .bad
      | none => .bad)
    | _ => .bad) else .bad
  | _, _, _, _, _ => .bad
section
variable (sb : Ty → Bool) (i : Nat) (hc : Nat → Store → R T)
mutual
def hE : E → Slots → Store → R T
  | .lit t, _, st => .ok t st
  | .var j, sl, st => if j = i then .bad else match sl[j]? with
    | some (some t) => .ok t st
    | _ => .bad
  | .not a, sl, st => (hE a sl st).bind fun x st => match x with
    | .bl b => .ok (.bl (!b)) st
    | _ => .bad
  | .and a b, sl, st => (hE a sl st).bind fun x st => match x with
    | .bl true => hE b sl st
    | .bl false => .ok (.bl false) st
    | _ => .bad
  | .or a b, sl, st => (hE a sl st).bind fun x st => match x with
    | .bl true => .ok (.bl true) st
    | .bl false => hE b sl st
    | _ => .bad
  | .isi (.var j) cs, _, st => if j = i then .ok (.bl (cs.any sb)) st else .bad
  | .lst es, sl, st => (hEs es sl st).bind fun xs st => (fzsR xs st).bind fun xs st => if lenOk xs.length then .ok (.nd .lst .own xs) st else .bad
  | .keep d e, sl, st => (hE e sl st).bind fun x st => match kp d x st with
    | some (t, st) => .ok t st
    | none => .bad
  | .call f (.cons (.var j) .nil), _, st => if j = i then hc f st else .bad
  | .bm m o es, sl, st => if hbmOk m then (hE o sl st).bind fun x st => if isLst st x then (hEs es sl st).bind fun xs st => bmR m x xs st else .bad else .bad
  | .cmp op a b, sl, st => (hE a sl st).bind fun x st => (hE b sl st).bind fun y st => cmpop op x y st
  | .bin op a b, sl, st => (hE a sl st).bind fun x st => (hE b sl st).bind fun y st => binop op x y st
  | .idx a b, sl, st => (hE a sl st).bind fun x st => (hE b sl st).bind fun y st => idxT x y st
  | .comp e x tg it c, sl, st => hComp i e x tg it c sl st
  | _, _, _ => .bad
def hEs : Es → Slots → Store → R (List T)
  | .nil, _, st => .ok [] st
  | .cons e es, sl, st => (hE e sl st).bind fun x st => (hEs es sl st).bind fun xs st => .ok (x :: xs) st
end
mutual
def hS : S → Slots → Store → RS
  | .asg (.name j) e, sl, st => if j = i then .bad else RS.of sl (hE sb i hc e sl st) fun x st => RS.of sl (fzaR x st) fun x st => .nx (sl.set j (some x)) st
  | .ex e, sl, st => RS.of sl (hE sb i hc e sl st) fun _ st => .nx sl st
  | .ret e, sl, st => RS.of sl (hE sb i hc e sl st) fun t st => .rt t st
  | .ret0, _, st => .rt .non st
  | .pass, sl, st => .nx sl st
  | .ite c a b, sl, st => RS.of sl (hE sb i hc c sl st) fun x st => match x with
    | .bl true => hSs a sl st
    | .bl false => hSs b sl st
    | _ => .bad
  | _, _, _ => .bad
def hSs : Ss → Slots → Store → RS
  | .nil, sl, st => .nx sl st
  | .cons s ss, sl, st => (hS s sl st).thn fun sl st => hSs ss sl st
end
end
def wipeR (i : Nat) : RS → RS
  | .nx sl st => .nx (sl.set i none) st
  | .rt t st => .rt t st
  | _ => .bad
def parSet (i j : Nat) (xs : List T) (sl : Slots) (st : Store) : RS := match xs with
  | [x, y] => .nx ((sl.set i (some x)).set j (some y)) st
  | _ => .bad
/-- what is stored at o[i], what at the slot j -/
def twoI (st : Store) (t : T) : Option (Int × Int) := match seqOf st t with
  | some [.int x, .int y] => some (x, y)
  | _ => none
def fnEnd (n : Nat) : RS → R T
  | .nx _ st => .ok .non (st.take n)
  | .rt t st => leaveT n t st
  | .exc c _ st => .exc c (st.take n)
  | .bad => .bad
/-- a def called with the exception -/
def hotF (P : Prog) (sb : Ty → Bool) (f : Nat) (st : Store) : R T := match P.hfn f with
  | some F => if F.np = 1 then noX (fnEnd st.length (hSs sb 0 (fun _ _ => .bad) F.body (List.replicate F.ns none) st)) else .bad
  | none => .bad
def tryR (P : Prog) (hs : Hs) (r : RS) : RS := match r, hs with
  | .exc k sl st, .cons c (some i) h .nil => if P.excs.contains k then (if P.sub k c then wipeR i (hSs (P.sub k) i (hotF P (P.sub k)) h (sl.set i none) st) else .exc k sl st) else .bad
  | .exc _ _ _, _ => .bad
  | r, .cons _ _ _ .nil => r
  | _, _ => .bad
section
variable (P : Prog) (call : Nat → List T → Store → R T)
mutual
def evS : S → Slots → Store → RS
  | .asg (.name i) e, sl, st => RS.of sl (evE P call e sl st) fun x st => RS.of sl (fzaR x st) fun x st => .nx (sl.set i (some x)) st
  | .asg (.tup ts) e, sl, st => RS.of sl (evE P call e sl st) fun x st => RS.of sl (fzaR x st) fun x st => match bindT st (.tup ts) x sl with
    | some sl => .nx sl st
    | none => .bad
  | .par i j es, sl, st => RS.of sl (evEs P call es sl st) fun xs st => RS.of sl (fzasR xs st) fun xs st => parSet i j xs sl st
  | .sub o i e, sl, st => RS.of sl (evE P call e sl st) fun t st => RS.of sl (evE P call o sl st) fun x st => RS.of sl (evE P call i sl st) fun i st => RS.of sl (setT x i t st) fun _ st => .nx sl st
  | .fld o f e, sl, st => RS.of sl (evE P call e sl st) fun t st => RS.of sl (evE P call o sl st) fun x st => RS.of sl (setFld P x f t st) fun _ st => .nx sl st
  | .subn o i j e, sl, st => RS.of sl (evE P call e sl st) fun t st => RS.of sl (fzaR t st) fun t st => match twoI st t with
    | some (x, y) => RS.of sl (evE P call o sl st) fun ov st => RS.of sl (evE P call i sl st) fun iv st => RS.of sl (setTL ov iv (.int x) st) fun _ st => .nx (sl.set j (some (.int y))) st
    | none => .bad
  | .ex e, sl, st => RS.of sl (evE P call e sl st) fun _ st => .nx sl st
  | .ret e, sl, st => RS.of sl (evE P call e sl st) fun t st => .rt t st
  | .ret0, _, st => .rt .non st
  | .pass, sl, st => .nx sl st
  | .ite c a b, sl, st => RS.of sl (evE P call c sl st) fun x st => match x with
    | .bl true => evSs a sl st
    | .bl false => evSs b sl st
    | _ => .bad
  | .for_ tg it b, sl, st => RS.of sl (evIt P call it sl st) fun w st => (forGo (forF (fun sl st => evSs b sl st) tg) w.1 sl st).unlock w.2
  | .whl n c b, sl, st => whlGo (fun sl st => evE P call c sl st) (fun sl st => evSs b sl st) n sl st
  | .rai c, sl, st => .exc c sl st
  | .try_ b hs, sl, st => tryR P hs (evSs b sl st)
def evSs : Ss → Slots → Store → RS
  | .nil, sl, st => .nx sl st
  | .cons s ss, sl, st => (evS s sl st).thn fun sl st => evSs ss sl st
end
end
def callN (P : Prog) : Nat → Nat → List T → Store → R T
  | 0, _, _, _ => .bad
  | n + 1, f, xs, st => match P.fn f with
    | some F => if xs.length = F.np then fnEnd st.length (evSs P (callN P n) F.body (xs.map some ++ List.replicate (F.ns - xs.length) none) st) else .bad
    | none => if mkBase ≤ f then callN P n (f - mkBase) xs st else .bad
theorem callN_mk {P : Prog} {f : Nat} (h : P.fn (mkBase + f) = none) : ∀ n : Nat, callN P n (mkBase + f) = callN P (n - 1) f
  | 0 => rfl
  | n + 1 => by
    funext xs st
    simp only [callN, h, if_pos (Nat.le_add_right mkBase f), Nat.add_sub_cancel_left, Nat.add_sub_cancel]
end PC
namespace PC
open PySem PySem.Spec PyProof.Rows L2
/-! ### dicts, as their objects stand -/
/-- an object as it stands -/
def objO (a : Addr) (o : Obj) : HO := .ext fun h => h.get? a = some o
theorem objO_ok {P : Program} {w : World} {H : Hp} {h : Heap} {a : Addr} {o : Obj} (e : h.get? a = some o) : ObjOk P w H h a (objO a o) := ⟨e, ⟨o, e⟩, fun _ _ e1 k => k _ e1⟩
theorem obj_at {P : Program} {w : World} {H : Hp} {h : Heap} {a : Addr} {o : Obj} (ok : HOk P w H h) (e : H a = some (objO a o)) : h.get? a = some o := (ok a _ e).1
/-- a dict's entries: its keys, keys and values by turns -/
inductive Ents (w : World) : List NestedKey → List V → List DictEntry → Prop where
  | nil : Ents w [] [] []
  | cons {k : NestedKey} {ks : List NestedKey} {u v : V} {vs : List V} {e : DictEntry} {es : List DictEntry} : e.hash = k.hash w → RelV u e.key → RelV v e.val → Ents w ks vs es → Ents w (k :: ks) (u :: v :: vs) (e :: es)
structure DObj (w : World) (o : Obj) (ks : List NestedKey) (vs : List V) : Prop where
  exact : o.ExactDict
  nd : ks.Nodup
  sz : ks.length ≤ sizeLine
  ents : ∃ es ep, o.data = .dict es ep ∧ Ents w ks vs es.toList
def DctAt (w : World) (H : Hp) (a : Addr) (ks : List NestedKey) (vs : List V) : Prop := ∃ o, H a = some (objO a o) ∧ (a == sysModules) = false ∧ DObj w o ks vs
theorem Ents.len {w : World} {ks : List NestedKey} {vs : List V} {es : List DictEntry} (h : Ents w ks vs es) : es.length = ks.length ∧ vs.length = 2 * ks.length := by
  induction h with
  | nil => exact ⟨rfl, rfl⟩
  | cons _ _ _ _ ih =>
    simp only [List.length_cons]
    omega
mutual
/-- a value that is the key k -/
inductive VKey (H : Hp) : V → NestedKey → Prop where
  | non : VKey H .non .none
  | bl (b : Bool) : VKey H (.bl b) (.num (if b = true then 1 else 0))
  | int (i : Int) : VKey H (.int i) (.num i)
  | str (x : Str) : VKey H (.str x) (.text x)
  | tup {a : Addr} {vs : List V} {ks : List NestedKey} : H a = some (.tup vs) → VKeys H vs ks → VKey H (.ref a) (.tup ks)
inductive VKeys (H : Hp) : List V → List NestedKey → Prop where
  | nil : VKeys H [] []
  | cons {v : V} {vs : List V} {k : NestedKey} {ks : List NestedKey} : VKey H v k → VKeys H vs ks → VKeys H (v :: vs) (k :: ks)
end
mutual
theorem VKey.nested {P : Program} {w : World} {H : Hp} {h : Heap} (ok : HOk P w H h) : ∀ {v : V} {k : NestedKey} {u : Value}, VKey H v k → RelV v u → NestedIs h k u
  | _, _, _, .non, r => by cases (show _ = Value.none from r); exact .none
  | _, _, _, .bl b, r => by cases (show _ = Value.bool b from r); exact .bool rfl
  | _, _, _, .int i, r => by obtain ⟨t, q⟩ := (show ∃ t, _ = Value.int i t from r); subst q; exact .int _ _
  | _, _, _, .str x, r => by obtain ⟨t, q⟩ := (show ∃ t, _ = Value.str x t from r); subst q; exact .text _ _
  | _, _, _, .tup (a := a) (vs := vs) e c, r => by
    cases (show _ = Value.ref _ from r)
    obtain ⟨_, its, rv, o, h1, h2, n, h3⟩ := (show ObjOk P w H h a (.tup vs) from ok a _ e)
    exact .tup h1 h2 h3 (by simpa using VKeys.nested ok c rv)
theorem VKeys.nested {P : Program} {w : World} {H : Hp} {h : Heap} (ok : HOk P w H h) : ∀ {vs : List V} {ks : List NestedKey} {us : List Value}, VKeys H vs ks → Vals vs us → NestedAll h ks us
  | _, _, _, .nil, .nil => .nil
  | _, _, _, .cons a b, .cons r t => .cons (VKey.nested ok a r) (VKeys.nested ok b t)
end
/-- a dict's key; b: it is a tuple -/
inductive KRel (H : Hp) : Bool → V → NestedKey → Prop where
  | int (i : Int) : KRel H false (.int i) (.num i)
  | str (x : Str) : KRel H false (.str x) (.text x)
  | tup {a : Addr} {ks : List NestedKey} : VKey H (.ref a) (.tup ks) → (NestedKey.tup ks).depth ≤ 8 → KRel H true (.ref a) (.tup ks)
inductive KRels (H : Hp) (b : Bool) : List NestedKey → List V → Prop where
  | nil : KRels H b [] []
  | cons {k : NestedKey} {ks : List NestedKey} {u v : V} {vs : List V} : KRel H b u k → KRels H b ks vs → KRels H b (k :: ks) (u :: v :: vs)
/-! tuples as keys -/
inductive XR : List (NestedKey × Addr × Value) → List NestedKey → List V → Prop where
  | nil : XR [] [] []
  | cons {xs : List (NestedKey × Addr × Value)} {k : NestedKey} {ks : List NestedKey} {q : Addr} {v : V} {vs : List V} {u : Value} : RelV v u → XR xs ks vs → XR ((k, q, u) :: xs) (k :: ks) (.ref q :: v :: vs)
theorem XR.keys {xs : List (NestedKey × Addr × Value)} {ks : List NestedKey} {vs : List V} (h : XR xs ks vs) : xs.map (·.1) = ks := by
  induction h with
  | nil => rfl
  | cons _ _ ih => rw [List.map_cons, ih]
theorem XR.get {xs : List (NestedKey × Addr × Value)} {ks : List NestedKey} {vs : List V} (h : XR xs ks vs) (k : NestedKey) : RelO (getD k ks vs) ((atKey xs k).map (·.2)) := by
  induction h with
  | nil => exact True.intro
  | @cons xs j ks q v vs u r t ih =>
    by_cases e : j = k
    · have b : atKey ((j, q, u) :: xs) k = some (q, u) := by simp [atKey, List.find?_cons, e]
      rw [b]
      simp only [getD, if_pos e]
      exact r
    · have b : atKey ((j, q, u) :: xs) k = atKey xs k := by simp [atKey, List.find?_cons, e]
      rw [b]
      simp only [getD, if_neg e]
      exact ih
theorem XR.none {xs : List (NestedKey × Addr × Value)} {ks : List NestedKey} {vs : List V} (h : XR xs ks vs) {k : NestedKey} (n : k ∉ ks) : atKey xs k = Option.none := by
  induction h with
  | nil => rfl
  | @cons xs j ks q v vs u r t ih =>
    have e : ¬ j = k := fun e => n (by simp [e])
    have b : atKey ((j, q, u) :: xs) k = atKey xs k := by simp [atKey, List.find?_cons, e]
    rw [b]
    exact ih fun z => n (by simp [z])
theorem putN_mem {k : NestedKey} : ∀ {ks : List NestedKey}, k ∈ ks → putN k ks = ks
  | j :: ks, h => by
    by_cases e : j = k
    · simp [putN, e]
    · rcases List.mem_cons.mp h with z | z
      · exact absurd z.symm e
      · simp only [putN, if_neg e, putN_mem z]
theorem putN_new {k : NestedKey} : ∀ {ks : List NestedKey}, k ∉ ks → putN k ks = ks ++ [k]
  | [], _ => rfl
  | j :: ks, h => by
    have e : ¬ j = k := fun e => h (by simp [e])
    have q := putN_new (k := k) (ks := ks) fun z => h (List.mem_cons_of_mem _ z)
    simp only [putN, if_neg e, q, List.cons_append]
theorem putN_nodup {k : NestedKey} {ks : List NestedKey} (h : ks.Nodup) : (putN k ks).Nodup := by
  by_cases m : k ∈ ks
  · rw [putN_mem m]; exact h
  · rw [putN_new m]
    refine List.nodup_append.mpr ⟨h, by simp, fun a ha b hb e => ?_⟩
    simp at hb
    subst hb
    subst e
    exact m ha
theorem putN_len (k : NestedKey) (ks : List NestedKey) : (putN k ks).length ≤ ks.length + 1 := by
  by_cases m : k ∈ ks
  · rw [putN_mem m]; omega
  · rw [putN_new m]; simp
theorem XR.repl {xs : List (NestedKey × Addr × Value)} {ks : List NestedKey} {vs : List V} (h : XR xs ks vs) {k : NestedKey} (m : k ∈ ks) (nd : ks.Nodup) {y v : V} {u : Value} (r : RelV v u) : XR (xs.map (putAt k u)) ks (putD k y v ks vs) := by
  induction h with
  | nil => simp at m
  | @cons xs j ks q x vs z r0 t ih =>
    have nd' := List.nodup_cons.mp nd
    by_cases e : j = k
    · subst e
      have e1 : xs.map (putAt j u) = xs := map_putAt_of_not_mem xs j u (by rw [t.keys]; exact nd'.1)
      simp only [List.map_cons, e1, putD, if_pos rfl, putAt]
      exact .cons r t
    · simp only [List.map_cons, putD, if_neg e, putAt]
      rcases List.mem_cons.mp m with w | w
      · exact absurd w.symm e
      · exact .cons r0 (ih w nd'.2)
theorem XR.snoc {xs : List (NestedKey × Addr × Value)} {ks : List NestedKey} {vs : List V} (h : XR xs ks vs) {k : NestedKey} (m : k ∉ ks) {q : Addr} {v : V} {u : Value} (r : RelV v u) : XR (xs ++ [(k, q, u)]) (ks ++ [k]) (putD k (.ref q) v ks vs) := by
  induction h with
  | nil => exact .cons r .nil
  | @cons xs j ks q' x vs z r0 t ih =>
    have e : ¬ j = k := fun e => m (by simp [e])
    simp only [List.cons_append, putD, if_neg e]
    exact .cons r0 (ih fun z => m (by simp [z]))
theorem XR.isSome {xs : List (NestedKey × Addr × Value)} {ks : List NestedKey} {vs : List V} (h : XR xs ks vs) (k : NestedKey) : (atKey xs k).isSome = true ↔ k ∈ ks := by
  induction h with
  | nil => simp [atKey]
  | @cons xs j ks q' x vs z r0 t ih =>
    by_cases e : j = k
    · have b : atKey ((j, q', z) :: xs) k = some (q', z) := by simp [atKey, List.find?_cons, e]
      rw [b]
      simp [e]
    · have b : atKey ((j, q', z) :: xs) k = atKey xs k := by simp [atKey, List.find?_cons, e]
      rw [b, ih]
      simp [Ne.symm e]
theorem XR.put {xs : List (NestedKey × Addr × Value)} {ks : List NestedKey} {vs : List V} (h : XR xs ks vs) (nd : ks.Nodup) {k : NestedKey} {q : Addr} {v : V} {u : Value} (r : RelV v u) : XR (storedH xs k q u) (putN k ks) (putD k (.ref q) v ks vs) := by
  unfold storedH
  by_cases m : k ∈ ks
  · rw [if_pos ((h.isSome k).mpr m), putN_mem m]
    exact h.repl m nd r
  · rw [if_neg (fun z => m ((h.isSome k).mp z)), putN_new m]
    exact h.snoc m r
theorem dropN_sub {k : NestedKey} : ∀ {ks : List NestedKey}, (dropN k ks).Sublist ks
  | [] => List.Sublist.refl _
  | j :: ks => by
    by_cases e : j = k
    · simp only [dropN, if_pos e]; exact List.sublist_cons_self _ _
    · simp only [dropN, if_neg e]; exact dropN_sub.cons₂ _
theorem XR.drop {xs : List (NestedKey × Addr × Value)} {ks : List NestedKey} {vs : List V} (h : XR xs ks vs) (nd : ks.Nodup) (k : NestedKey) : XR (withoutH xs k) (dropN k ks) (dropD k ks vs) := by
  induction h with
  | nil => exact .nil
  | @cons xs j ks q' x vs z r0 t ih =>
    have nd' := List.nodup_cons.mp nd
    by_cases e : j = k
    · subst e
      have e1 : withoutH xs j = xs := withoutH_of_not_mem xs j (by rw [t.keys]; exact nd'.1)
      have e2 : withoutH ((j, q', z) :: xs) j = withoutH xs j := by simp [withoutH, List.filter_cons]
      rw [e2, e1]
      simp only [dropN, dropD, if_pos rfl]
      exact t
    · have e2 : withoutH ((j, q', z) :: xs) k = (j, q', z) :: withoutH xs k := by simp [withoutH, List.filter_cons, e]
      rw [e2]
      simp only [dropN, dropD, if_neg e]
      exact .cons r0 (ih nd'.2)
section
variable {P : Program} {w : World} {H : Hp} {h : Heap} {a : Addr} {ks : List NestedKey} {vs : List V}
theorem XR.ents {xs : List (NestedKey × Addr × Value)} (x : XR xs ks vs) : Ents w ks vs (xs.map (entryOfKey (nestedKind P w))) := by
  induction x with
  | nil => exact .nil
  | cons r _ ih => exact .cons rfl rfl r ih
theorem KRel.is {b : Addr} {k : NestedKey} (ok : HOk P w H h) (r : KRel H true (.ref b) k) : (nestedKind P w).is h k b := by
  cases r with
  | tup v d => exact ⟨v.nested ok rfl, d⟩
theorem XR.of (ok : HOk P w H h) : ∀ {ks : List NestedKey} {vs : List V} {es : List DictEntry}, Ents w ks vs es → KRels H true ks vs → ∃ xs, XR xs ks vs ∧ es = xs.map (entryOfKey (nestedKind P w)) ∧ ∀ x ∈ xs, (nestedKind P w).is h x.1 x.2.1
  | _, _, _, .nil, _ => ⟨[], .nil, rfl, by simp⟩
  | _, _, _, .cons (e := e) e1 e2 e3 t, .cons r c => by
    obtain ⟨xs, x1, x2, x3⟩ := XR.of ok t c
    cases r with
    | @tup b kk vk d =>
      have ek : e.key = .ref b := e2
      refine ⟨(_, b, e.val) :: xs, .cons e3 x1, ?_, fun x hx => ?_⟩
      · rw [List.map_cons, ← x2]
        congr 1
        obtain ⟨eh, ekk, ev⟩ := e
        simp only at ek e1
        subst ek e1
        rfl
      · rcases List.mem_cons.mp hx with z | z
        · rw [z]; exact ⟨vk.nested ok rfl, d⟩
        · exact x3 x z
theorem dct_H (ok : HOk P w H h) (d : DctAt w H a ks vs) (kr : KRels H true ks vs) : (a == sysModules) = false ∧ ks.length ≤ sizeLine ∧ ks.Nodup ∧ ∃ xs, XR xs ks vs ∧ xs.length = ks.length ∧ h.DictOfH (nestedKind P w) a xs := by
  obtain ⟨o, e, hs, ex, nd, sz, es, ep, hd, en⟩ := d
  obtain ⟨xs, x1, x2, x3⟩ := XR.of (P := P) ok en kr
  refine ⟨hs, sz, nd, xs, x1, ?_, o, es, ep, obj_at ok e, ex, hd, x2, x3, by rw [x1.keys]; exact nd⟩
  rw [← x1.keys, List.length_map]
/-- back -/
theorem dobj_H {h' : Heap} {xs : List (NestedKey × Addr × Value)} (d : h'.DictOfH (nestedKind P w) a xs) (x : XR xs ks vs) (sz : ks.length ≤ sizeLine) : ∃ o, h'.get? a = some o ∧ DObj w o ks vs := by
  obtain ⟨o, es, ep, e, ex, hd, he, _, nd⟩ := d
  refine ⟨o, e, ex, by rw [← x.keys]; exact nd, sz, es, ep, hd, ?_⟩
  rw [he]
  exact x.ents
/-! numbers and texts as keys -/
def nk : Key → NestedKey
  | .inl i => .num i
  | .inr x => .text x
theorem nk_inj : ∀ {x y : Key}, nk x = nk y → x = y
  | .inl i, .inl j, e => by have e : NestedKey.num i = .num j := e; injection e with e; rw [e]
  | .inr i, .inr j, e => by have e : NestedKey.text i = .text j := e; injection e with e; rw [e]
  | .inl i, .inr j, e => nomatch (show NestedKey.num i = .text j from e)
  | .inr i, .inl j, e => nomatch (show NestedKey.text i = .num j from e)
theorem keyH_nk : ∀ k : Key, keyH w k = (nk k).hash w
  | .inl _ => by simp only [keyH, nk, NestedKey.hash]
  | .inr _ => by simp only [keyH, nk, NestedKey.hash]
inductive FR : List (Key × Value) → List NestedKey → List V → Prop where
  | nil : FR [] [] []
  | cons {xs : List (Key × Value)} {k : Key} {ks : List NestedKey} {v : V} {vs : List V} {u : Value} : RelV v u → FR xs ks vs → FR ((k, u) :: xs) (nk k :: ks) (kV k :: v :: vs)
theorem KRel.flat {v : V} {k : NestedKey} (r : KRel H false v k) : ∃ k', k = nk k' ∧ v = kV k' := by
  cases r with
  | int i => exact ⟨.inl i, rfl, rfl⟩
  | str x => exact ⟨.inr x, rfl, rfl⟩
theorem FR.keys {xs : List (Key × Value)} (x : FR xs ks vs) : xs.map (fun q => nk q.1) = ks := by
  induction x with
  | nil => rfl
  | cons _ _ ih => rw [List.map_cons, ih]
theorem FR.len {xs : List (Key × Value)} (x : FR xs ks vs) : xs.length = ks.length := by rw [← x.keys, List.length_map]
theorem FR.nd {xs : List (Key × Value)} (x : FR xs ks vs) : (xs.map (·.1)).Nodup ↔ ks.Nodup := by
  rw [← x.keys, show xs.map (fun q => nk q.1) = (xs.map (·.1)).map nk by rw [List.map_map]; rfl]
  unfold List.Nodup
  constructor
  · intro n
    exact List.pairwise_map.mpr (n.imp fun h e => h (nk_inj e))
  · intro n
    exact (List.pairwise_map.mp n).imp fun h e => h (congrArg nk e)
theorem FR.of (P : Program) : ∀ {ks : List NestedKey} {vs : List V} {es : List DictEntry}, Ents w ks vs es → KRels H false ks vs → ∃ xs, FR xs ks vs ∧ Pairs (mixKind P w) es xs ∧ ∀ e ∈ es, ∃ k, (mixKind P w).is k e.key = true ∧ e.hash = (mixKind P w).hash k
  | _, _, _, .nil, _ => ⟨[], .nil, .nil, by simp⟩
  | _, _, _, .cons (e := e) e1 e2 e3 t, .cons r c => by
    obtain ⟨xs, x1, x2, x3⟩ := FR.of P t c
    obtain ⟨k', rfl, rfl⟩ := r.flat
    have z := kV_is (P := P) (w := w) e2
    refine ⟨(k', e.val) :: xs, .cons e3 x1, .cons z rfl x2, fun x hx => ?_⟩
    rcases List.mem_cons.mp hx with q | q
    · rw [q]; exact ⟨k', z, by rw [e1]; exact (keyH_nk k').symm⟩
    · exact x3 x q
theorem FR.ents : ∀ {ks : List NestedKey} {vs : List V} {es : List DictEntry} {xs : List (Key × Value)}, FR xs ks vs → Pairs (mixKind P w) es xs → (∀ e ∈ es, ∃ k, (mixKind P w).is k e.key = true ∧ e.hash = (mixKind P w).hash k) → Ents w ks vs es
  | _, _, _, _, .nil, .nil, _ => .nil
  | _, _, _, _, .cons (k := k) r t, .cons (e := e) h1 h2 c, he => by
    obtain ⟨k', z1, z2⟩ := he e (by simp)
    have ek : k' = k := (mixKind P w).inj _ _ _ z1 h1
    subst ek
    exact .cons (by rw [z2]; exact keyH_nk k') (relV_key (show keyIs k' e.key = true from h1)) (by rw [h2]; exact r) (FR.ents t c fun x hx => he x (by simp [hx]))
theorem FR.get {xs : List (Key × Value)} (x : FR xs ks vs) (k : Key) : RelO (getD (nk k) ks vs) (valueAt xs k) := by
  induction x with
  | nil => exact True.intro
  | @cons xs j ks v vs u r t ih =>
    by_cases e : j = k
    · have b : valueAt ((j, u) :: xs) k = some u := by simp [valueAt, List.find?_cons, e]
      rw [b]
      simp only [getD, e, if_true]
      exact r
    · have b : valueAt ((j, u) :: xs) k = valueAt xs k := by simp [valueAt, List.find?_cons, e]
      rw [b]
      have e' : ¬ nk j = nk k := fun z => e (nk_inj z)
      simp only [getD, if_neg e']
      exact ih
theorem FR.any {xs : List (Key × Value)} (x : FR xs ks vs) (k : Key) : (xs.any fun kv => decide (kv.1 = k)) = true ↔ nk k ∈ ks := by
  rw [← x.keys]
  simp only [List.any_eq_true, decide_eq_true_eq, List.mem_map]
  constructor
  · rintro ⟨q, h1, rfl⟩; exact ⟨q, h1, rfl⟩
  · rintro ⟨q, h1, h2⟩; exact ⟨q, h1, nk_inj h2⟩
theorem FR.repl {xs : List (Key × Value)} (x : FR xs ks vs) {k : Key} (m : nk k ∈ ks) (nd : ks.Nodup) {y v : V} {u : Value} (r : RelV v u) : FR (xs.map fun kv => if kv.1 = k then (kv.1, u) else kv) ks (putD (nk k) y v ks vs) := by
  induction x with
  | nil => simp at m
  | @cons xs j ks z vs u0 r0 t ih =>
    have nd' := List.nodup_cons.mp nd
    by_cases e : j = k
    · subst e
      have e1 : xs.map (fun kv => if kv.1 = j then (kv.1, u) else kv) = xs := map_store_of_not_mem xs j u fun hm => nd'.1 (by
        rw [← t.keys]
        obtain ⟨q, h1, h2⟩ := List.mem_map.mp hm
        exact List.mem_map.mpr ⟨q, h1, by rw [h2]⟩)
      simp only [List.map_cons, e1, putD, if_pos rfl]
      exact .cons r t
    · have e' : ¬ nk j = nk k := fun z => e (nk_inj z)
      simp only [List.map_cons, if_neg e, putD, if_neg e']
      rcases List.mem_cons.mp m with q | q
      · exact absurd q.symm e'
      · exact .cons r0 (ih q nd'.2)
theorem FR.snoc {xs : List (Key × Value)} (x : FR xs ks vs) {k : Key} (m : nk k ∉ ks) {v : V} {u : Value} (r : RelV v u) : FR (xs ++ [(k, u)]) (ks ++ [nk k]) (putD (nk k) (kV k) v ks vs) := by
  induction x with
  | nil => exact .cons r .nil
  | @cons xs j ks z vs u0 r0 t ih =>
    have e : ¬ nk j = nk k := fun e => m (by simp [e])
    simp only [List.cons_append, putD, if_neg e]
    exact .cons r0 (ih fun z => m (by simp [z]))
theorem FR.put {xs : List (Key × Value)} (x : FR xs ks vs) (nd : ks.Nodup) {k : Key} {v : V} {u : Value} (r : RelV v u) : FR (stored xs k u) (putN (nk k) ks) (putD (nk k) (kV k) v ks vs) := by
  unfold stored
  by_cases m : nk k ∈ ks
  · rw [if_pos ((x.any k).mpr m), putN_mem m]
    exact x.repl m nd r
  · rw [if_neg (fun z => m ((x.any k).mp z)), putN_new m]
    exact x.snoc m r
theorem FR.drop {xs : List (Key × Value)} (x : FR xs ks vs) (nd : ks.Nodup) (k : Key) : FR (without xs k) (dropN (nk k) ks) (dropD (nk k) ks vs) := by
  induction x with
  | nil => exact .nil
  | @cons xs j ks z vs u0 r0 t ih =>
    have nd' := List.nodup_cons.mp nd
    by_cases e : j = k
    · subst e
      have e1 : without xs j = xs := by
        unfold without
        refine List.filter_eq_self.mpr fun q hq => ?_
        have : q.1 ≠ j := fun e => nd'.1 (by rw [← t.keys]; exact List.mem_map.mpr ⟨q, hq, by rw [e]⟩)
        simpa using this
      have e2 : without ((j, u0) :: xs) j = without xs j := by simp [without, List.filter_cons]
      rw [e2, e1]
      simp only [dropN, dropD, if_pos rfl]
      exact t
    · have e' : ¬ nk j = nk k := fun z => e (nk_inj z)
      have e2 : without ((j, u0) :: xs) k = (j, u0) :: without xs k := by simp [without, List.filter_cons, e]
      rw [e2]
      simp only [dropN, dropD, if_neg e']
      exact .cons r0 (ih nd'.2)
theorem dct_F (ok : HOk P w H h) (d : DctAt w H a ks vs) (kr : KRels H false ks vs) : (a == sysModules) = false ∧ ks.length ≤ sizeLine ∧ ks.Nodup ∧ ∃ xs, FR xs ks vs ∧ xs.length = ks.length ∧ h.DictOf (mixKind P w) a xs := by
  obtain ⟨o, e, hs, ex, nd, sz, es, ep, hd, en⟩ := d
  obtain ⟨xs, x1, x2, x3⟩ := FR.of P en kr
  exact ⟨hs, sz, nd, xs, x1, x1.len, o, es, ep, obj_at ok e, ex, hd, fun e he => x3 e (Array.mem_toList_iff.mpr he), x2, x1.nd.mpr nd⟩
theorem dobj_F {h' : Heap} {xs : List (Key × Value)} (d : h'.DictOf (mixKind P w) a xs) (x : FR xs ks vs) (sz : ks.length ≤ sizeLine) : ∃ o, h'.get? a = some o ∧ DObj w o ks vs := by
  obtain ⟨o, es, ep, e, ex, hd, hk, hp, nd⟩ := d
  exact ⟨o, e, ex, x.nd.mp nd, sz, es, ep, hd, x.ents hp fun e he => hk e (Array.mem_toList_iff.mp he)⟩
end
end PC
namespace PC
open PySem PySem.Spec PyProof.Rows L2
/-! ### dicts: what is done to them -/
section
variable {X : Cx} {pins : List (Addr × Obj)} {σ : L2.St} {H : Hp} {s : Shared} {a : Addr} {ks : List NestedKey} {vs : List V} {b : Bool} {y v : V} {k : NestedKey} {u r : Value} {A : Around} {E : Value → Shared → Prop}
theorem nroom {P : Program} {w : World} (hu : A.units + 10 < cLine) : (nestedKind P w).room A.in1 := by
  show A.in1.units + 8 < cLine
  rw [Around.in1_units]
  omega
theorem relo_some {o : Option Value} (h : RelO (some v) o) : ∃ z, o = some z ∧ RelV v z := by
  cases o with
  | none => exact (show False from h).elim
  | some z => exact ⟨z, rfl, h⟩
theorem relo_none {o : Option Value} (h : RelO none o) : o = none := by
  cases o with
  | none => rfl
  | some z => exact (show False from h).elim
theorem krel_true (ky : KRel H true y k) (ry : RelV y u) : ∃ q, y = .ref q ∧ u = .ref q := by
  cases ky with
  | tup _ _ => exact ⟨_, rfl, ry⟩
theorem dct_get {Q : Value → Shared → Prop} (hu : A.units + 10 < cLine) (I : Inv X pins σ H s) (d : DctAt X.w H a ks vs) (kr : KRels H b ks vs) (ky : KRel H b y k) (ry : RelV y u) (g : getD k ks vs = some v)
    (fin : ∀ z s', Inv X pins σ H s' → RelV v z → Q z s') : wpAny (model X.prog X.w) A (getItem (.ref a) u) Q E s := by
  cases b with
  | true =>
    obtain ⟨hs, sz, nd, xs, x, hl, dd⟩ := dct_H (P := X.prog) I.hok d kr
    obtain ⟨q, rfl, rfl⟩ := krel_true ky ry
    have z := x.get k
    rw [g] at z
    obtain ⟨z, e, rz⟩ := relo_some z
    obtain ⟨p, e1, rfl⟩ := Option.map_eq_some_iff.mp e
    exact wpAny_getItem_heap (nroom hu) (ky.is I.hok) dd e1 (fin _ _ (I.tok _) rz)
  | false =>
    obtain ⟨hs, sz, nd, xs, x, hl, dd⟩ := dct_F (P := X.prog) I.hok d kr
    obtain ⟨k', rfl, rfl⟩ := ky.flat
    have z := x.get k'
    rw [g] at z
    obtain ⟨z, e, rz⟩ := relo_some z
    exact wpAny_getItem_of (kV_is ry) dd.mapOf e (fin _ _ (I.tok _) rz)
theorem dct_in {Q : Value → Shared → Prop} (hu : A.units + 10 < cLine) (I : Inv X pins σ H s) (d : DctAt X.w H a ks vs) (kr : KRels H b ks vs) (ky : KRel H b y k) (ry : RelV y u)
    (fin : ∀ s', Inv X pins σ H s' → Q (.bool (getD k ks vs).isSome) s') : wpAny (model X.prog X.w) A (compareOp .In u (.ref a)) Q E s := by
  cases b with
  | true =>
    obtain ⟨hs, sz, nd, xs, x, hl, dd⟩ := dct_H (P := X.prog) I.hok d kr
    obtain ⟨q, rfl, rfl⟩ := krel_true ky ry
    have z := (x.get k).isSome_eq
    rw [Option.isSome_map] at z
    refine wpAny_in_heap (nroom hu) (ky.is I.hok) hs dd ?_
    rw [← z]
    exact fin _ (I.tok _)
  | false =>
    obtain ⟨hs, sz, nd, xs, x, hl, dd⟩ := dct_F (P := X.prog) I.hok d kr
    obtain ⟨k', rfl, rfl⟩ := ky.flat
    refine wpAny_in_of (kV_is ry) hs dd.mapOf ?_
    rw [← (x.get k').isSome_eq]
    exact fin _ (I.tok _)
theorem dct_notIn {Q : Value → Shared → Prop} (hu : A.units + 10 < cLine) (I : Inv X pins σ H s) (d : DctAt X.w H a ks vs) (kr : KRels H b ks vs) (ky : KRel H b y k) (ry : RelV y u)
    (fin : ∀ s', Inv X pins σ H s' → Q (.bool (!(getD k ks vs).isSome)) s') : wpAny (model X.prog X.w) A (compareOp .NotIn u (.ref a)) Q E s := by
  cases b with
  | true =>
    obtain ⟨hs, sz, nd, xs, x, hl, dd⟩ := dct_H (P := X.prog) I.hok d kr
    obtain ⟨q, rfl, rfl⟩ := krel_true ky ry
    have z := (x.get k).isSome_eq
    rw [Option.isSome_map] at z
    refine wpAny_notIn_heap (nroom hu) (ky.is I.hok) hs dd ?_
    rw [← z]
    exact fin _ (I.tok _)
  | false =>
    obtain ⟨hs, sz, nd, xs, x, hl, dd⟩ := dct_F (P := X.prog) I.hok d kr
    obtain ⟨k', rfl, rfl⟩ := ky.flat
    refine wpAny_notIn_of (kV_is ry) hs dd.mapOf ?_
    rw [← (x.get k').isSome_eq]
    exact fin _ (I.tok _)
theorem dct_mut (d : DctAt X.w H a ks vs) : Mut (H a) := by
  obtain ⟨o, e, _⟩ := d
  rw [e]
  exact True.intro
/-- its object is another one -/
theorem dct_write {h' : Heap} {t' : Nat} {o : Obj} (I : Inv X pins σ H s) (d : DctAt X.w H a ks vs) (hs : Heap.SameBut a s.heap h') (e : h'.get? a = some o) : Inv X pins σ (upd H a (objO a o)) { s with heap := h', toks := t' } :=
  I.write (x := a) (e := a) (dct_mut d) (.inl rfl) (fun c q hc z => (hs.2 c hc).trans z) ⟨o, e⟩ (objO_ok e)
theorem dct_set {Q : Unit → Shared → Prop} (hu : A.units + 10 < cLine) (I : Inv X pins σ H s) (d : DctAt X.w H a ks vs) (kr : KRels H b ks vs) (ky : KRel H b y k) (ry : RelV y u) (rv : RelV v r) (hl : ks.length < sizeLine)
    (fin : ∀ o s', DObj X.w o (putN k ks) (putD k y v ks vs) → Inv X pins σ (upd H a (objO a o)) s' → Q () s') : wpAny (model X.prog X.w) A (setItem (.ref a) u r) Q E s := by
  have hn : (putN k ks).length ≤ sizeLine := by have := putN_len k ks; omega
  cases b with
  | true =>
    obtain ⟨hs, sz, nd, xs, x, hx, dd⟩ := dct_H (P := X.prog) I.hok d kr
    obtain ⟨q, rfl, rfl⟩ := krel_true ky ry
    refine wpAny_setItem_heap (hsz := by rw [hx]; exact sz) (nroom hu) (ky.is I.hok) dd fun h' dd' sb => ?_
    obtain ⟨o, e, dO⟩ := dobj_H (P := X.prog) dd' (x.put nd rv) hn
    exact fin o _ dO (dct_write I d sb e)
  | false =>
    obtain ⟨hs, sz, nd, xs, x, hx, dd⟩ := dct_F (P := X.prog) I.hok d kr
    obtain ⟨k', rfl, rfl⟩ := ky.flat
    refine wpAny_setItem_pairs (hsz := by rw [hx]; exact sz) (kV_is ry) dd fun h' dd' sb => ?_
    obtain ⟨o, e, dO⟩ := dobj_F (P := X.prog) dd' (x.put nd rv) hn
    exact fin o _ dO (dct_write I d sb e)
theorem dct_raw (I : Inv X pins σ H s) (d : DctAt X.w H a ks vs) : ∃ es ep, s.heap.DictRaw a es ep ∧ es.size = ks.length ∧ Ents X.w ks vs es.toList ∧ (a == sysModules) = false := by
  obtain ⟨o, e, hs, ex, nd, sz, es, ep, hd, en⟩ := d
  exact ⟨es, ep, ⟨o, obj_at I.hok e, ex, hd⟩, by rw [← en.len.1, Array.length_toList], en, hs⟩
theorem dct_ty (I : Inv X pins σ H s) (d : DctAt X.w H a ks vs) : s.TypeIs (.ref a) "dict" ∧ ∀ c, Value.ref a = .ref c → ∃ ob, s.heap.get? c = some ob ∧ ob.dict = none := by
  obtain ⟨o, e, hs, ex, _⟩ := d
  have e' := obj_at I.hok e
  exact ⟨⟨o, e', ex.1⟩, fun c q => by cases q; exact ⟨o, e', ex.2.1⟩⟩
theorem dct_pop {Q : Value → Shared → Prop} (hu : A.units + 10 < cLine) (I : Inv X pins σ H s) (d : DctAt X.w H a ks vs) (kr : KRels H b ks vs) (ky : KRel H b y k) (ry : RelV y u) (g : getD k ks vs = some v)
    (fin : ∀ z o s', RelV v z → DObj X.w o (dropN k ks) (dropD k ks vs) → Inv X pins σ (upd H a (objO a o)) s' → Q z s') : wpAny (model X.prog X.w) A (call (.builtin "dict.pop") [.ref a, u]) Q E s := by
  have hn : ks.length ≤ sizeLine → (dropN k ks).length ≤ sizeLine := fun h => Nat.le_trans (List.Sublist.length_le dropN_sub) h
  cases b with
  | true =>
    obtain ⟨hs, sz, nd, xs, x, hx, dd⟩ := dct_H (P := X.prog) I.hok d kr
    obtain ⟨q, rfl, rfl⟩ := krel_true ky ry
    have z := x.get k
    rw [g] at z
    obtain ⟨z, e, rz⟩ := relo_some z
    obtain ⟨p, e1, rfl⟩ := Option.map_eq_some_iff.mp e
    refine call_pop_heap (more := []) (hsz := by rw [hx]; exact sz) (.inl rfl) (F.args_dict_pop_2 _ _) (nroom hu) (ky.is I.hok) hs dd e1 fun h' dd' sb => ?_
    obtain ⟨o, e, dO⟩ := dobj_H (P := X.prog) dd' (x.drop nd k) (hn sz)
    exact fin _ o _ rz dO (dct_write I d sb e)
  | false =>
    obtain ⟨hs, sz, nd, xs, x, hx, dd⟩ := dct_F (P := X.prog) I.hok d kr
    obtain ⟨k', rfl, rfl⟩ := ky.flat
    have z := x.get k'
    rw [g] at z
    obtain ⟨z, e, rz⟩ := relo_some z
    have hp : (keyPart u).isSome = true := by
      cases k' with
      | inl i => obtain ⟨t, q⟩ := (show ∃ t, u = Value.int i t from ry); subst q; rfl
      | inr x => obtain ⟨t, q⟩ := (show ∃ t, u = Value.str x t from ry); subst q; rfl
    refine call_meetsIn F.slot_dict_pop dd.typeIs F.entry_dict_pop (F.args_dict_pop_2 _ _) (meets_dict_pop_there (mixKind X.prog X.w) a (kV_is ry) [] (.inl rfl) hp) ⟨xs, z, dd, by rw [hx]; exact sz, e, fun h' dd' sb => ?_⟩
    obtain ⟨o, e, dO⟩ := dobj_F (P := X.prog) dd' (x.drop nd k') (hn sz)
    exact fin _ o _ rz dO (dct_write I d sb e)
theorem dct_clear {Q : Value → Shared → Prop} (I : Inv X pins σ H s) (d : DctAt X.w H a ks vs) (sz : ks.length ≤ sizeLine) (fin : ∀ o s', DObj X.w o [] [] → Inv X pins σ (upd H a (objO a o)) s' → Q .none s') :
    wpAny (model X.prog X.w) A (call (.builtin "dict.clear") [.ref a]) Q E s := by
  obtain ⟨es, ep, dr, hz, en, hs⟩ := dct_raw I d
  refine call_meetsIn F.slot_dict_clear (dct_ty I d).1 F.entry_dict_clear (F.args_dict_clear_1 _) (meets_dict_clear_raw a) ⟨es, ep, dr, by rw [hz]; exact sz, fun h' dr' sb => ?_⟩
  obtain ⟨o, e, ex, hd⟩ := dr'
  exact fin o _ ⟨ex, List.nodup_nil, Nat.zero_le _, #[], ep + 1, hd, .nil⟩ (dct_write (t' := s.toks) I d sb e)
theorem dct_sz (d : DctAt X.w H a ks vs) : ks.length ≤ sizeLine := let ⟨_, _, _, _, _, sz, _⟩ := d; sz
theorem dct_len {Q : Value → Shared → Prop} (I : Inv X pins σ H s) (d : DctAt X.w H a ks vs) (fin : ∀ t s', Inv X pins σ H s' → Q (.int ks.length t) s') : wpAny (model X.prog X.w) A (call (.builtin "len") [.ref a]) Q E s := by
  obtain ⟨es, ep, dr, hz, en, hs⟩ := dct_raw I d
  have sz := dct_sz d
  rw [sizeLine_eq] at sz
  refine PyProof.Rows.call_len_slot (n := ks.length) (dct_ty I d).1 F.slot_dict_len (fun Q' hq => call_len_raw hs dr ?_) (by omega) (by omega) (fin _ _ (I.tok _))
  rw [hz]
  exact hq
/-- a new dict -/
theorem dct_new {h' : Heap} {t' : Nat} {o : Obj} (I : Inv X pins σ H s) (kp : ∀ c q, s.heap.get? c = some q → h'.get? c = some q) (e : h'.get? s.heap.objs.size = some o) : Inv X pins σ (upd H s.heap.objs.size (objO s.heap.objs.size o)) { s with heap := h', toks := t' } ∧ (s.heap.objs.size == sysModules) = false ∧ H s.heap.objs.size = none :=
  ⟨I.laid kp (Nat.le_refl _) (objO_ok e), beq_eq_false_iff_ne.mpr (Nat.ne_of_gt I.big), I.hok.fresh (Nat.le_refl _)⟩
end
/-- what a new dict is -/
def NewD (w : World) (H : Hp) (ks : List NestedKey) (vs : List V) (Q : VK) : Prop := ∀ p o, H p = none → (p == sysModules) = false → DObj w o ks vs → Q (.ref p) (upd H p (objO p o))
section
variable {X : Cx} {pos : Pos}
theorem dobj_empty {w : World} : DObj w { cls := .type "dict", data := .dict #[] } [] [] := ⟨⟨rfl, rfl, rfl⟩, List.nodup_nil, Nat.zero_le _, #[], 0, rfl, .nil⟩
theorem pe_dnewD : PE X (.Dict [] [] pos) (fun _ H Q => NewD X.w H [] [] Q) := ⟨fun pins s σ H Q I h => by
  obtain ⟨a, b, c⟩ := dct_new (t' := s.toks) I (fun _ _ q => Heap.get?_push_of_some _ q) (Heap.get?_push_size s.heap (o := { cls := .type "dict", data := .dict #[] }) rfl)
  exact wpAny_Dict_empty ⟨.ref s.heap.objs.size, _, a, rfl, h _ _ c b dobj_empty⟩⟩
/-! ### rules -/
def rIxN (w : World) : R2 := fun x y H Q => ∃ a ks vs b k v, x = .ref a ∧ DctAt w H a ks vs ∧ KRels H b ks vs ∧ KRel H b y k ∧ getD k ks vs = some v ∧ Q v H
theorem ix_dct (hu : X.A.units + 10 < cLine) : IxR X (rIxN X.w) := by
  intro value slice pins s σ H x y v u Q I rx ry h hs
  obtain ⟨a, ks, vs, b, k, z, rfl, d, kr, ky, g, q⟩ := h
  obtain rfl : v = Value.ref a := rx
  exact tail_any (dct_ty I d).1 slot_dict_getitem.lookup (dct_get hu I d kr ky ry g fun z' s' I' rz => ⟨z, H, I', rz, q⟩) hs
def rInN (w : World) (neg : Bool) : R2 := fun x y H Q => ∃ a ks vs b k, y = .ref a ∧ DctAt w H a ks vs ∧ KRels H b ks vs ∧ KRel H b x k ∧ Q (.bl (notO neg (getD k ks vs).isSome)) H
theorem op_inN (hu : X.A.units + 10 < cLine) : OpR X (compareOp .In) (rInN X.w false) := by
  intro pins s σ H x y v u Q I rx ry h
  obtain ⟨a, ks, vs, b, k, rfl, d, kr, ky, q⟩ := h
  obtain rfl : u = Value.ref a := ry
  exact dct_in hu I d kr ky rx fun s' I' => ⟨.bl (getD k ks vs).isSome, H, I', rfl, q⟩
theorem op_notInN (hu : X.A.units + 10 < cLine) : OpR X (compareOp .NotIn) (rInN X.w true) := by
  intro pins s σ H x y v u Q I rx ry h
  obtain ⟨a, ks, vs, b, k, rfl, d, kr, ky, q⟩ := h
  obtain rfl : u = Value.ref a := ry
  exact dct_notIn hu I d kr ky rx fun s' I' => ⟨.bl (!(getD k ks vs).isSome), H, I', rfl, q⟩
def rSetN (w : World) : TSet := fun o i v H Q => ∃ a ks vs b k, o = .ref a ∧ DctAt w H a ks vs ∧ KRels H b ks vs ∧ KRel H b i k ∧ ks.length < sizeLine ∧ ∀ ob, DObj w ob (putN k ks) (putD k i v ks vs) → Q (upd H a (objO a ob))
theorem set_dct (hu : X.A.units + 10 < cLine) : PSet X (rSetN X.w) := by
  intro pins s σ H o i v ov iv u Q I ro ri rv h
  obtain ⟨a, ks, vs, b, k, rfl, d, kr, ky, hl, q⟩ := h
  obtain rfl : ov = Value.ref a := ro
  exact dct_set hu I d kr ky ri rv hl fun ob s' dO I' => ⟨_, I', q ob dO⟩
theorem PSet.or {r r' : TSet} (h : PSet X r) (h' : PSet X r') : PSet X (fun o i v H Q => r o i v H Q ∨ r' o i v H Q) := by
  intro pins s σ H o i v ov iv u Q I ro ri rv q
  rcases q with q | q
  · exact h pins s σ H o i v ov iv u Q I ro ri rv q
  · exact h' pins s σ H o i v ov iv u Q I ro ri rv q
theorem call_lenN : CallR X (.builtin "len") (fun xs H Q => ∃ a ks vs, xs = [.ref a] ∧ DctAt X.w H a ks vs ∧ Q (.int ks.length) H) := by
  intro pins s σ H xs us Q I r h
  obtain ⟨a, ks, vs, rfl, d, q⟩ := h
  obtain rfl := Vals.ref1 r
  exact dct_len I d fun t s' I' => ⟨.int ks.length, H, I', ⟨t, rfl⟩, q⟩
def rPopN (w : World) : V → List V → Hp → VK → Prop := fun x xs H Q => ∃ a ks vs b k y v, x = .ref a ∧ xs = [y] ∧ DctAt w H a ks vs ∧ KRels H b ks vs ∧ KRel H b y k ∧ getD k ks vs = some v ∧ ∀ ob, DObj w ob (dropN k ks) (dropD k ks vs) → Q v (upd H a (objO a ob))
theorem mt_popN (hu : X.A.units + 10 < cLine) : MtR X "dict.pop" (rPopN X.w) := by
  intro pins s σ H x xs v us Q I rx rs h
  obtain ⟨a, ks, vs, b, k, y, z, rfl, rfl, d, kr, ky, g, q⟩ := h
  obtain rfl : v = Value.ref a := rx
  obtain ⟨u, rfl, ru⟩ := vals1 rs
  exact dct_pop hu I d kr ky ru g fun z' ob s' rz dO I' => ⟨z, _, I', rz, q ob dO⟩
theorem dct_getm {pins : List (Addr × Obj)} {σ : L2.St} {H : Hp} {s : Shared} {a : Addr} {ks : List NestedKey} {vs : List V} {b : Bool} {y : V} {k : NestedKey} {u : Value} {A : Around} {E : Value → Shared → Prop} {Q : Value → Shared → Prop} (hu : A.units + 10 < cLine) (I : Inv X pins σ H s) (d : DctAt X.w H a ks vs) (kr : KRels H b ks vs) (ky : KRel H b y k) (ry : RelV y u)
    (fin : ∀ z s', Inv X pins σ H s' → RelV ((getD k ks vs).getD .non) z → Q z s') : wpAny (model X.prog X.w) A (call (.builtin "dict.get") [.ref a, u]) Q E s := by
  have rel : ∀ {o : Option Value}, RelO (getD k ks vs) o → RelV ((getD k ks vs).getD .non) (o.getD .none) := fun {o} r => by
    cases q : getD k ks vs with
    | none => rw [q] at r; rw [relo_none r]; exact rfl
    | some v => rw [q] at r; obtain ⟨z, rfl, rz⟩ := relo_some r; exact rz
  cases b with
  | true =>
    obtain ⟨hs, sz, nd, xs, x, hl, dd⟩ := dct_H (P := X.prog) I.hok d kr
    obtain ⟨q, rfl, rfl⟩ := krel_true ky ry
    exact call_meetsIn F.slot_dict_get dd.typeIs F.entry_dict_get (F.args_dict_get_2 _ _) (meetsH_dict_get (nestedKind X.prog X.w) a q hs) ⟨nroom hu, k, xs, ky.is I.hok, dd, fin _ _ (I.tok _) (rel (x.get k))⟩
  | false =>
    obtain ⟨hs, sz, nd, xs, x, hl, dd⟩ := dct_F (P := X.prog) I.hok d kr
    obtain ⟨k', rfl, rfl⟩ := ky.flat
    exact call_meetsIn F.slot_dict_get dd.typeIs F.entry_dict_get (F.args_dict_get_2 _ _) (meets_dict_get (mixKind X.prog X.w) a (kV_is ry) hs) ⟨_, dd.mapOf, fin _ _ (I.tok _) (rel (x.get k'))⟩
def rGetN (w : World) : V → List V → Hp → VK → Prop := fun x xs H Q => ∃ a ks vs b k y, x = .ref a ∧ xs = [y] ∧ DctAt w H a ks vs ∧ KRels H b ks vs ∧ KRel H b y k ∧ Q ((getD k ks vs).getD .non) H
theorem mt_getN (hu : X.A.units + 10 < cLine) : MtR X "dict.get" (rGetN X.w) := by
  intro pins s σ H x xs v us Q I rx rs h
  obtain ⟨a, ks, vs, b, k, y, rfl, rfl, d, kr, ky, q⟩ := h
  obtain rfl : v = Value.ref a := rx
  obtain ⟨u, rfl, ru⟩ := vals1 rs
  exact dct_getm hu I d kr ky ru fun z s' I' rz => ⟨_, H, I', rz, q⟩
def rClearN (w : World) : V → List V → Hp → VK → Prop := fun x xs H Q => ∃ a ks vs, x = .ref a ∧ xs = [] ∧ DctAt w H a ks vs ∧ ∀ ob, DObj w ob [] [] → Q .non (upd H a (objO a ob))
theorem mt_clearN : MtR X "dict.clear" (rClearN X.w) := by
  intro pins s σ H x xs v us Q I rx rs h
  obtain ⟨a, ks, vs, rfl, rfl, d, q⟩ := h
  obtain rfl : v = Value.ref a := rx
  cases rs
  exact dct_clear I d (dct_sz d) fun ob s' dO I' => ⟨.non, _, I', rfl, q ob dO⟩
end
end PC
namespace PC
open PySem PySem.Spec PyProof.Rows L2
/-! ### dicts walked, copied, made of pairs -/
theorem Ents.key {w : World} : ∀ {ks : List NestedKey} {vs : List V} {es : List DictEntry} {i : Nat} {e : DictEntry}, Ents w ks vs es → es[i]? = some e → ∃ u, (keysD vs)[i]? = some u ∧ RelV u e.key
  | _, _, _, _, _, .nil, h => by simp at h
  | _, _, _, 0, _, .cons _ r _ _, h => by
    simp only [List.getElem?_cons_zero, Option.some.injEq] at h
    subst h
    exact ⟨_, rfl, r⟩
  | _, _, _, i + 1, _, .cons _ _ _ t, h => by
    simp only [List.getElem?_cons_succ] at h
    obtain ⟨u, a, b⟩ := Ents.key t h
    exact ⟨u, by simpa only [keysD, List.getElem?_cons_succ] using a, b⟩
theorem Ents.keysLen {w : World} {ks : List NestedKey} {vs : List V} {es : List DictEntry} (h : Ents w ks vs es) : (keysD vs).length = ks.length := by
  induction h with
  | nil => rfl
  | cons _ _ _ _ ih => simp only [keysD, List.length_cons, ih]
/-- the keys of a dict that stays as it is -/
def ItD (a : Addr) (o : Obj) (us : List V) : L2.It :=
  ⟨fun i H => H a = some (objO a o) ∧ i < us.length, fun i H x H' => H' = H ∧ us[i]? = some x, fun i H => H a = some (objO a o) ∧ us.length ≤ i⟩
theorem turn_dct {P : Program} {w : World} {K : PySem.W.Frag} {tg : Expr} {a : Addr} {o : Obj} {ks : List NestedKey} {vs : List V} {es : Array DictEntry} {ep : Nat} (it : Addr) (hd : o.data = .dict es ep) (en : Ents w ks vs es.toList) :
    Turn P w K tg (ItD a o (keysD vs)) [it] it (fun i h => h.IsKeyIter it a i es.size ep) := by
  have hl : (keysD vs).length = es.size := by rw [en.keysLen, ← en.len.1, Array.length_toList]
  refine ⟨by simp, fun i h st c hc => ?_, fun i h h' st kp => st.at fun q e => kp it (by simp) q e, ?_, ?_, ?_⟩
  · obtain rfl : c = it := by simpa using hc
    obtain ⟨q, e, z, dd⟩ := st
    exact ⟨q, e, fun v z => by rw [dd] at z; cases z⟩
  · intro X hP hw hK hc i pins s σ H E I hf st ⟨e, hi⟩
    subst hP hw hK
    obtain ⟨f0, f1, f2, f3, f4, f5⟩ := hf it (by simp)
    have e' := obj_at I.hok e
    obtain ⟨ent, hen⟩ : ∃ x, es[i]? = some x := ⟨es[i]'(by omega), Array.getElem?_eq_getElem _⟩
    obtain ⟨u, hu, ru⟩ := en.key (i := i) (e := ent) (by rw [Array.getElem?_toList]; exact hen)
    refine next_key_item st e' hd rfl hen fun h' st' sb => ?_
    have I1 : Inv X pins σ H { s with heap := h' } := I.turned (t' := s.toks) (fun c q hc z => (sb.2 c hc).trans z) f0 f1 f3 f4 f5
    obtain ⟨q, e1, e2, e3⟩ := id st'
    exact ⟨ent.key, rfl, go_of (s := { s with heap := h' }) e1 e2 e3 (by decide) ⟨u, H, I1, ru, ⟨rfl, hu⟩, st', fun c hc => (hf c hc).1⟩⟩
  · intro X hP hw hK hc i pins s σ H E I hf st ⟨e, hi⟩
    subst hP hw hK
    obtain ⟨f0, f1, f2, f3, f4, f5⟩ := hf it (by simp)
    have e' := obj_at I.hok e
    exact next_key_end (I.ok.hd hc) st e' hd rfl (by omega) fun h' eb => ⟨rfl, I.turned (t' := s.toks) (fun c q hc z => eb c q hc z) f0 f1 f3 f4 f5⟩
  · intro A i s Q E st h
    refine wpAny_pyIter_slot st.typeIs F.slot_dict_keyiterator_iter (wpAny_call_entry F.slot_dict_keyiterator_iter st.typeIs F.entry_dict_keyiterator_iter ?_ (F.args_dict_keyiterator_iter_1 _))
    exact (show wpAny _ _ (ret (.ref it)) _ _ s from wpAny_pure ⟨_, rfl, "dict_keyiterator", _, st.typeIs, F.slot_dict_keyiterator_next.lookup, h⟩)
section
variable {X : Cx}
theorem dctIt {tg : Expr} {pins : List (Addr × Obj)} {s1 : Shared} {σ : L2.St} {H1 : Hp} {R : L2.It → Hp → Prop} {a : Addr} {o : Obj} {ks : List NestedKey} {vs : List V} (I1 : Inv X pins σ H1 s1) (e : H1 a = some (objO a o)) (hs : (a == sysModules) = false) (d : DObj X.w o ks vs) (q : R (ItD a o (keysD vs)) H1) :
    wpAny (model X.prog X.w) X.A (pyIter (.ref a)) (PIE X pins σ tg R) X.xe s1 := by
  obtain ⟨ex, nd, sz, es, ep, hd, en⟩ := d
  exact iter_keys hs (obj_at I1.hok e) ex hd (pi_one (tk := s1.toks) I1 _ (turn_dct _ hd en) ⟨_, Heap.get?_push_size _ rfl, rfl, rfl⟩ q)
theorem call_listN (hc : X.calm = true) : CallR X (.type "list") (fun xs H Q => ∃ a ks vs, xs = [.ref a] ∧ DctAt X.w H a ks vs ∧ ∀ p, H p = none → Q (.ref p) (upd H p (.lst (keysD vs)))) := by
  intro pins s σ H xs us Q I r h
  obtain ⟨a, ks, vs, rfl, ⟨o, e, hs, ex, nd, sz, es, ep, hd, en⟩, q⟩ := h
  obtain rfl := Vals.ref1 r
  have e' := obj_at I.hok e
  have hz : es.size = ks.length := by rw [← en.len.1, Array.length_toList]
  have hl : (keysD vs).length = es.size := by rw [en.keysLen, hz]
  refine PySem.W.kdl_call (kdl_raw hs ex hd) (I.ok.hd hc) e' (by omega) fun h' tk acc c kp e2 it => ?_
  have rv : Vals (keysD vs) acc.toList := by
    have gen : ∀ (xs : List V) (us : List Value), xs.length = us.length → (∀ (i : Nat) (x : V) (u : Value), xs[i]? = some x → us[i]? = some u → RelV x u) → Vals xs us := by
      intro xs
      induction xs with
      | nil =>
        intro us hl _
        cases us with
        | nil => exact .nil
        | cons _ _ => cases hl
      | cons x xs ih =>
        intro us hl hr
        cases us with
        | nil => cases hl
        | cons u us => exact .cons (hr 0 x u rfl rfl) (ih us (Nat.succ.inj hl) fun i x' u' h1 h2 => hr (i + 1) x' u' (by simpa using h1) (by simpa using h2))
    refine gen _ _ (by rw [hl, Array.length_toList, it.1]) fun i x u h1 h2 => ?_
    rw [Array.getElem?_toList] at h2
    obtain ⟨ent, h3, rfl⟩ := it.2 i u h2
    obtain ⟨u', h4, h5⟩ := en.key (i := i) (e := ent) (by rw [Array.getElem?_toList]; exact h3)
    rw [h1] at h4
    cases h4
    exact h5
  refine ⟨.ref s.heap.objs.size, _, I.laid (t' := tk) (o := .lst (keysD vs)) kp (Nat.le_refl _) ⟨by omega, acc.toList, c, rv, by rw [Array.toArray_toList]; exact e2⟩, rfl, q _ (I.hok.fresh (Nat.le_refl _))⟩
/-! ### methods -/
variable {o e : Expr} {es : List Expr} {to : TE} {t : TA} {name : Str} {apos cpos : Pos} {id : String} {r : V → List V → Hp → VK → Prop}
def isD (w : World) (H : Hp) (x : V) : Prop := ∃ a ks vs, x = .ref a ∧ DctAt w H a ks vs
theorem pe_dm0 (slot : Slot "dict" name id) (hty : typeOf (.builtin id) = pure (.type "method_descriptor")) (hm : MtR X id r) (ho : PE X o to) (hbase : attributeBase o name X.env (eval o X.env) = eval o X.env) (hline : (apos.endLine == cpos.line) = true) :
    PE X (.Call (.Attribute o name apos) [] [] cpos) (fun σ H Q => to σ H fun x H1 => isD X.w H1 x ∧ r x [] H1 Q) := by
  refine ⟨fun pins s σ H Q I h => wpAny_Call_method0_late hbase hline (thn (ho.run pins s σ H _ I h) fun z s1 ⟨x, H1, I1, rx, ⟨a, ks, vs, ex, d⟩, q⟩ => ?_)⟩
  subst ex
  obtain rfl : z = Value.ref a := rx
  exact ⟨"dict", id, PySem.F.plainAttrs_dict, slot, hty, (dct_ty I1 d).1, (dct_ty I1 d).2, Calls.callWith_builtin rfl (PySem.evalArgs_none (hm pins s1 σ H1 (.ref a) [] (.ref a) [] Q I1 rfl .nil q))⟩
theorem pe_dm (slot : Slot "dict" name id) (hty : typeOf (.builtin id) = pure (.type "method_descriptor")) (hm : MtR X id r) (ho : PE X o to) (ha : PA X (e :: es) t) (hbase : attributeBase o name X.env (eval o X.env) = eval o X.env)
    (hfew : ((backTo cpos (starEach (e :: es) X.env)).all (fun x => !x.1) && (backToKw cpos (keywordEach [] X.env)).all (fun x => x.1.isSome) && decide ((e :: es).length + ([] : List Keyword).length + (if ([] : List Keyword).isEmpty then 0 else 1) < 30)) = true)
    (hline : (apos.endLine == cpos.line) = true) (hs : starEach (e :: es) X.env = (false, eval e X.env) :: starEach es X.env) (hp : (backTo cpos (starEach es X.env)).any (·.1) = false) :
    PE X (.Call (.Attribute o name apos) (e :: es) [] cpos) (fun σ H Q => to σ H fun x H1 => isD X.w H1 x ∧ t σ H1 fun xs H2 => r x xs H2 Q) := by
  refine ⟨fun pins s σ H Q I h => wpAny_Call_method_late hbase hfew hline rfl (thn (ho.run pins s σ H _ I h) fun z s1 ⟨x, H1, I1, rx, ⟨a, ks, vs, ex, d⟩, q⟩ => ?_)⟩
  subst ex
  obtain rfl : z = Value.ref a := rx
  refine ⟨"dict", id, PySem.F.plainAttrs_dict, slot, hty, (dct_ty I1 d).1, (dct_ty I1 d).2, ?_⟩
  have hA := ha.run cpos pins s1 σ H1 _ I1 q
  rw [hs] at hA ⊢
  exact Calls.callWith_builtin (by show (false || (backTo cpos (starEach es X.env)).any (·.1)) = false; rw [hp]; rfl) (Calls.evalArgs_plain (thn hA fun us s2 ⟨xs, H2, I2, rs, q2⟩ => hm pins s2 σ H2 (.ref a) xs (.ref a) us Q I2 rfl rs q2))
theorem PE.or {e : Expr} {t t' : TE} (h : PE X e t) (h' : PE X e t') : PE X e (fun σ H Q => t σ H Q ∨ t' σ H Q) := ⟨fun pins s σ H Q I q => q.elim (h.run pins s σ H Q I) (h'.run pins s σ H Q I)⟩
/-! ### dict(pairs), dict(d) -/
inductive PairsAt (H : Hp) : List V → List V → Prop where
  | nil : PairsAt H [] []
  | cons {p : Addr} {ps : List V} {u v : V} {vs : List V} : H p = some (.tup [u, v]) → PairsAt H ps vs → PairsAt H (.ref p :: ps) (u :: v :: vs)
theorem XR.all {ps : List (NestedKey × Addr × Value)} {more : List NestedKey} {ws : List V} (y : XR ps more ws) : ∀ {xs : List (NestedKey × Addr × Value)} {ks : List NestedKey} {vs : List V}, XR xs ks vs → ks.Nodup → XR (storedAllH xs ps) (mrgN ks more) (mrgD ks vs more ws) := by
  induction y with
  | nil =>
    intro xs ks vs x nd
    simpa only [storedAllH, List.foldl_nil, mrgN, mrgD] using x
  | @cons ps k more q v ws u r t ih =>
    intro xs ks vs x nd
    have := ih (x.put nd (k := k) (q := q) r) (putN_nodup nd)
    simpa only [storedAllH, List.foldl_cons, mrgN, mrgD] using this
theorem mrgN_len (more : List NestedKey) : ∀ ks : List NestedKey, (mrgN ks more).length ≤ ks.length + more.length := by
  induction more with
  | nil => intro ks; simp [mrgN]
  | cons k more ih =>
    intro ks
    have h1 := ih (putN k ks)
    have h2 := putN_len k ks
    simp only [mrgN, List.length_cons]
    omega
theorem pairs_at {pins : List (Addr × Obj)} {σ : L2.St} {H : Hp} {s : Shared} (I : Inv X pins σ H s) : ∀ {ps : List V} {vs : List V} {ks : List NestedKey} {us : List Value}, PairsAt H ps vs → KRels H true ks vs → Vals ps us →
    ∃ xs : List (NestedKey × Addr × Value), XR xs ks vs ∧ us.length = xs.length ∧ (∀ x ∈ xs, (nestedKind X.prog X.w).is s.heap x.1 x.2.1) ∧ ∀ (j : Nat) (x : NestedKey × Addr × Value), xs[j]? = some x → ∃ p, us[j]? = some (.ref p) ∧ s.heap.IsTuple p #[.ref x.2.1, x.2.2]
  | _, _, _, _, .nil, .nil, .nil => ⟨[], .nil, rfl, by simp, fun j x e => by simp at e⟩
  | _, _, _, _, .cons (p := p) e c, .cons k kc, .cons r rs => by
    obtain ⟨xs, x1, x2, x3, x4⟩ := pairs_at I c kc rs
    obtain ⟨_, its, rv, o, h1, h2, n, h3⟩ := (show ObjOk X.prog X.w H s.heap p (.tup _) from I.hok p _ e)
    obtain ⟨w1, w2, rfl, r1, r2⟩ := vals2 rv
    cases k with
    | @tup b kk vk dp =>
      obtain rfl : w1 = Value.ref b := r1
      obtain rfl : _ = Value.ref p := r
      refine ⟨(.tup kk, b, w2) :: xs, .cons r2 x1, by simp [x2], fun x hx => ?_, fun j x ej => ?_⟩
      · rcases List.mem_cons.mp hx with z | z
        · rw [z]; exact ⟨vk.nested I.hok rfl, dp⟩
        · exact x3 x z
      · cases j with
        | zero =>
          simp only [List.getElem?_cons_zero, Option.some.injEq] at ej
          subst ej
          exact ⟨p, rfl, o, h1, h2, n, h3⟩
        | succ j =>
          obtain ⟨p', a, b⟩ := x4 j x (by simpa using ej)
          exact ⟨p', by simpa using a, b⟩
theorem nroom2 {P : Program} {w : World} {A : Around} (hu : A.units + 12 < cLine) : (nestedKind P w).room A.in1.in1 := by
  show A.in1.in1.units + 8 < cLine
  rw [Around.in1_units, Around.in1_units]
  omega
theorem call_dictN (hc : X.calm = true) (hu : X.A.units + 12 < cLine) : CallR X (.type "dict") (fun xs H Q => ∃ a ps ks vs, xs = [.ref a] ∧ H a = some (.lst ps) ∧ PairsAt H ps vs ∧ KRels H true ks vs ∧ NewD X.w H (mrgN [] ks) (mrgD [] [] ks vs) Q) := by
  intro pins s σ H xs us Q I r h
  obtain ⟨a, ps, ks, vs, rfl, e, pr, kr, q⟩ := h
  obtain rfl := Vals.ref1 r
  obtain ⟨its, n, rv, ho, hz⟩ := I.lst e
  obtain ⟨ys, x1, x2, x3, x4⟩ := pairs_at I pr kr rv
  have hlen : ys.length = ks.length := by rw [← x1.keys, List.length_map]
  let prs : List (Value × Value) := ys.map fun y => (Value.ref y.2.1, y.2.2)
  let Ts : Nat → Addr := fun j => match its[j]? with
    | some (.ref p) => p
    | _ => 0
  have get : ∀ (j : Nat) (k v : Value), prs[j]? = some (k, v) → ∃ y, ys[j]? = some y ∧ k = .ref y.2.1 ∧ v = y.2.2 := fun j k v hj => by
    simp only [prs, List.getElem?_map, Option.map_eq_some_iff] at hj
    obtain ⟨y, h1, h2⟩ := hj
    cases h2
    exact ⟨y, h1, rfl, rfl⟩
  have hits : PairItems s.heap its.toArray Ts prs := by
    refine ⟨by simp [prs, x2], fun j k v hj => ?_⟩
    obtain ⟨y, h1, rfl, rfl⟩ := get j k v hj
    obtain ⟨p, h2, h3⟩ := x4 j y h1
    have et : Ts j = p := by simp only [Ts, h2]
    rw [et]
    exact ⟨by simpa using h2, .inl h3⟩
  have hzz : ks.length ≤ sizeLine := by rw [← hlen, ← x2, ← rv.length]; exact hz
  refine call_dict_pairsH (ps := ys) (PairArg.list a its.toArray Ts prs) (I.ok.hd hc) (nroom2 hu) ⟨⟨_, n, ho, rfl, rfl, rfl⟩, hits⟩ ⟨by simp [prs], fun j k v hj => ?_⟩ (fun h' hk x hx => ?_) (by simpa [prs, hlen] using hzz) fun h' tk dd hk => ?_
  · obtain ⟨y, h1, rfl, rfl⟩ := get j k v hj
    exact ⟨y.1, y.2.1, h1, rfl⟩
  · exact nestedKind_stays.stays (fun b o vs n e _ => hk b o (Nat.ne_of_lt (Heap.lt_size e)) (by simp) e) (x3 x hx)
  · obtain ⟨o, e2, dO⟩ := dobj_H (P := X.prog) dd (x1.all .nil List.nodup_nil) (by have := mrgN_len ks []; simp at this; omega)
    obtain ⟨z1, z2, z3⟩ := dct_new (t' := tk) I (fun c q z => hk c q (by simp) z) e2
    exact ⟨.ref s.heap.objs.size, _, z1, rfl, q _ o z3 z2 dO⟩
mutual
theorem hash0_ok {w : World} : ∀ {k : NestedKey} {i : Int}, hash0 k = some i → k.hash w = i
  | .none, _, e => by simp only [hash0, Option.some.injEq] at e; rw [← e]; simp only [NestedKey.hash]
  | .num _, _, e => by simp only [hash0, Option.some.injEq] at e; rw [← e]; simp only [NestedKey.hash]
  | .text _, _, e => by simp [hash0] at e
  | .tup ks, _, e => by
    simp only [hash0, Option.map_eq_some_iff] at e
    obtain ⟨hs, e1, rfl⟩ := e
    simp only [NestedKey.hash, hash0s_ok (w := w) e1]
theorem hash0s_ok {w : World} : ∀ {ks : List NestedKey} {is : List Int}, hash0s ks = some is → NestedKey.hashes w ks = is
  | [], _, e => by simp only [hash0s, Option.some.injEq] at e; rw [← e]; simp only [NestedKey.hashes]
  | k :: ks, _, e => by
    simp only [hash0s] at e
    split at e
    · rename_i h hs e1 e2
      simp only [Option.some.injEq] at e
      rw [← e]
      simp only [NestedKey.hashes, hash0_ok (w := w) e1, hash0s_ok (w := w) e2]
    · cases e
end
theorem hashes_map {w : World} : ∀ ks : List NestedKey, NestedKey.hashes w ks = ks.map (NestedKey.hash w)
  | [] => by simp only [NestedKey.hashes, List.map_nil]
  | k :: ks => by simp only [NestedKey.hashes, List.map_cons, hashes_map ks]
theorem apart_ok {w : World} {ks : List NestedKey} (h : apartK ks = true) : (ks.map (NestedKey.hash w)).Nodup := by
  unfold apartK at h
  split at h
  · rename_i hs e
    rw [← hashes_map, hash0s_ok e]
    exact of_decide_eq_true h
  · cases h
/-- dict(d), the keys tuples -/
theorem call_dict_H {prog : Program} {w : World} {A : Around} {E : Value → Shared → Prop} {s : Shared} {o : Addr} {more : List (NestedKey × Addr × Value)} {Q : Value → Shared → Prop} (hu : A.units + 12 < cLine) (hoS : (o == sysModules) = false) (ho : s.heap.DictOfH (nestedKind prog w) o more) (hsz : more.length ≤ sizeLine)
    (hap : (more.map fun x => x.1.hash w).Nodup)
    (fin : ∀ h', h'.DictOfH (nestedKind prog w) s.heap.objs.size (storedAllH [] more) → (∀ b q, s.heap.get? b = some q → h'.get? b = some q) → Q (.ref s.heap.objs.size) { s with heap := h' }) :
    wpAny (model prog w) A (call (.type "dict") [.ref o]) Q E s := by
  refine callType_codes (Q₁ := fun obj s₁ => obj = .ref s.heap.objs.size ∧ s₁ = { s with heap := s.heap.push { cls := .type "dict", data := .dict #[] } }) F.kt_called_dict (F.kt_typeCall_dict_1 _) F.entry_dict_init (kt_code_dict_new _ ⟨rfl, rfl⟩) ?_
  rintro obj s₁ ⟨rfl, rfl⟩
  have kp : ∀ b q, s.heap.get? b = some q → (s.heap.push { cls := .type "dict", data := .dict #[] }).get? b = some q := fun b q e => Heap.get?_push_of_some _ e
  have hnew : (s.heap.push { cls := .type "dict", data := .dict #[] }).DictOfH (nestedKind prog w) s.heap.objs.size [] := Heap.DictOfH.new s.heap
  have his : ∀ x ∈ more, (nestedKind prog w).is s.heap x.1 x.2.1 := let ⟨_, _, _, _, _, _, _, z, _⟩ := ho; z
  have ho' : (s.heap.push { cls := .type "dict", data := .dict #[] }).DictOfH (nestedKind prog w) o more := ho.at' (fun q e => kp o q e) fun y hy => nestedKind_stays.stays (fun b q vs n e _ => kp b q e) (his y hy)
  have hne : s.heap.objs.size ≠ o := fun e => absurd ho.lt_size (by rw [e]; exact Nat.lt_irrefl _)
  refine ⟨hnew.typeIs, F.args_dict_init_2 _ _, ?_⟩
  unfold Builtin.«dict.__init__»
  refine wpAny_bind ?_
  unfold Builtin.Dict.selfAndRest
  refine wpAny_bind (wpAny_notOrdered_dict hnew.typeIs ?_)
  show wpAny _ _ (pure (s.heap.objs.size, [Value.ref o])) _ _ _
  refine wpAny_pure ?_
  show wpAny _ _ (Builtin.Dict.updateFrom "dict.__init__" s.heap.objs.size (.ref o) [] .none) _ _ _
  refine wpAny_mono (updateFrom_dictH (knd := nestedKind prog w) (R := wants (fun r s₂ => r = .none ∧ Q (.ref s.heap.objs.size) s₂) E) (A := A.in1) .none (nroom2 hu) hne hoS hnew ho' (.inr ⟨fun x hx => ?_, hap⟩) (by simpa using hsz) fun h' hd' _ sb => ?_) (fun _ _ z => z) fun _ _ z => z
  · exact nestedKind_stays.tuple (s := { s with heap := s.heap.push { cls := .type "dict", data := .dict #[] } }) (nestedKind_stays.stays (fun b q vs n e _ => kp b q e) (his x hx))
  · exact ⟨rfl, fin h' hd' fun b q e => (sb.2 b (Nat.ne_of_lt (Heap.lt_size e))).trans (kp b q e)⟩
theorem mrgN_nodup : ∀ (more ks : List NestedKey), (ks ++ more).Nodup → mrgN ks more = ks ++ more
  | [], ks, _ => by simp [mrgN]
  | k :: more, ks, h => by
    have hk : k ∉ ks := fun m => (List.nodup_append.mp h).2.2 k m k (by simp) rfl
    have e : (ks ++ [k]) ++ more = ks ++ k :: more := by simp
    simp only [mrgN, putN_new hk]
    rw [mrgN_nodup more (ks ++ [k]) (by rw [e]; exact h), e]
theorem putD_new {α : Type} {k : NestedKey} {u v : α} : ∀ {ks : List NestedKey} {vs : List α}, k ∉ ks → vs.length = 2 * ks.length → putD k u v ks vs = vs ++ [u, v]
  | [], [], _, _ => rfl
  | j :: ks, a :: b :: vs, h, l => by
    have e : ¬ j = k := fun e => h (by simp [e])
    have q := putD_new (k := k) (u := u) (v := v) (ks := ks) (vs := vs) (fun z => h (List.mem_cons_of_mem _ z)) (by simp only [List.length_cons] at l; omega)
    simp only [putD, if_neg e, q, List.cons_append]
  | [], _ :: _, _, l => by simp at l
  | _ :: _, [], _, l => by simp at l
  | _ :: _, [_], _, l => by simp only [List.length_cons, List.length_nil] at l; omega
theorem mrgD_nodup {α : Type} : ∀ (more ks : List NestedKey) (vs ws : List α), (ks ++ more).Nodup → vs.length = 2 * ks.length → ws.length = 2 * more.length → mrgD ks vs more ws = vs ++ ws
  | [], ks, vs, [], _, _, _ => by simp [mrgD]
  | [], ks, vs, _ :: _, _, _, l => by simp at l
  | k :: more, ks, vs, u :: v :: ws, h, l, l2 => by
    have hk : k ∉ ks := fun m => (List.nodup_append.mp h).2.2 k m k (by simp) rfl
    have e : (ks ++ [k]) ++ more = ks ++ k :: more := by simp
    simp only [mrgD, putN_new hk, putD_new (u := u) (v := v) hk l]
    rw [mrgD_nodup more (ks ++ [k]) (vs ++ [u, v]) ws (by rw [e]; exact h) (by simp [l]; omega) (by simp only [List.length_cons] at l2; omega)]
    simp
  | _ :: _, _, _, [], _, _, l => by simp at l
  | _ :: _, _, _, [_], _, _, l => by simp only [List.length_cons, List.length_nil] at l; omega
theorem call_dictCopy (hu : X.A.units + 12 < cLine) : CallR X (.type "dict") (fun xs H Q => ∃ a ks vs b, xs = [.ref a] ∧ DctAt X.w H a ks vs ∧ KRels H b ks vs ∧ (b = true → apartK ks = true) ∧ NewD X.w H ks vs Q) := by
  intro pins s σ H xs us Q I r h
  obtain ⟨a, ks, vs, b, rfl, d, kr, hap, q⟩ := h
  obtain rfl := Vals.ref1 r
  cases b with
  | true =>
    obtain ⟨hs, sz, nd, ys, y, hl, dd⟩ := dct_H (P := X.prog) I.hok d kr
    have en : vs.length = 2 * ks.length := (y.ents (P := X.prog) (w := X.w)).len.2
    refine call_dict_H hu hs dd (by rw [hl]; exact sz) ?_ fun h' dd' kp => ?_
    · have e := apart_ok (w := X.w) (hap rfl)
      rw [← y.keys, List.map_map] at e
      exact e
    · have z := y.all .nil List.nodup_nil
      rw [mrgN_nodup ks [] nd, mrgD_nodup ks [] [] vs nd rfl en] at z
      obtain ⟨o, e2, dO⟩ := dobj_H (P := X.prog) dd' z sz
      obtain ⟨z1, z2, z3⟩ := dct_new (t' := s.toks) I kp e2
      exact ⟨.ref s.heap.objs.size, _, z1, rfl, q _ o z3 z2 dO⟩
  | false =>
    obtain ⟨hs, sz, nd, ys, y, hl, dd⟩ := dct_F (P := X.prog) I.hok d kr
    refine kt_call_dict hs dd (by rw [hl]; exact sz) fun h' dd' sb => ?_
    obtain ⟨o, e2, dO⟩ := dobj_F (P := X.prog) dd' y sz
    obtain ⟨z1, z2, z3⟩ := dct_new (t' := s.toks) I (fun c q e => (sb.2 c (Nat.ne_of_lt (Heap.lt_size e))).trans (Heap.get?_push_of_some _ e)) e2
    exact ⟨.ref s.heap.objs.size, _, z1, rfl, q _ o z3 z2 dO⟩
end
end PC
namespace PC
open PySem PySem.Spec PyProof.Rows L2 PySem.SeqAt
/-! ### dicts compared -/
section
variable {prog : Program} {w : World} {A : Around} {s : Shared}
/-- each thing of a dict is the other one's at its key, or not -/
inductive HitsD (prog : Program) (w : World) (A : Around) (s : Shared) (ys : List (NestedKey × Addr × Value)) : List (NestedKey × Addr × Value) → Bool → Prop
  | nil : HitsD prog w A s ys [] true
  | miss {x : NestedKey × Addr × Value} {r : List (NestedKey × Addr × Value)} : atKey ys x.1 = none → HitsD prog w A s ys (x :: r) false
  | hit {x : NestedKey × Addr × Value} {r : List (NestedKey × Addr × Value)} {p : Addr × Value} {e b : Bool} : atKey ys x.1 = some p → EqIn prog w A s x.2.2 p.2 e → HitsD prog w A s ys r b → HitsD prog w A s ys (x :: r) (e && b)
theorem samePairs_H {E : Value → Shared → Prop} {nm : String} {a b : Addr} {xs ys : List (NestedKey × Addr × Value)} {r : Bool} {Q : Bool → Shared → Prop} (hu : A.units + 8 < cLine) (ha : (a == sysModules) = false) (hb : (b == sysModules) = false)
    (da : s.heap.DictOfH (nestedKind prog w) a xs) (db : s.heap.DictOfH (nestedKind prog w) b ys) (hits : xs.length = ys.length → HitsD prog w A s ys xs r) (fin : Q (xs.length == ys.length && r) s) :
    wpAny (model prog w) A (Builtin.Dict.samePairs nm a b) Q E s := by
  obtain ⟨oa, es, ep, ga, _, ua, ea, ia, na⟩ := da
  obtain ⟨ob, fs, fp, gb, _, ub, eb, ib, nb⟩ := db
  have la : xs.length = es.size := (size_of_entries ea).symm
  have lb : ys.length = fs.size := (size_of_entries eb).symm
  rw [la, lb] at fin
  unfold Builtin.Dict.samePairs Builtin.Dict.showsAll
  rw [if_neg (show ¬ (a == sysModules) = true by rw [ha]; decide), if_neg (show ¬ (b == sysModules) = true by rw [hb]; decide)]
  refine wpAny_bind (wpAny_pure (wpAny_bind (wpAny_pure (wpAny_bind (wpAny_dictEntries ga ua ?_)))))
  dsimp only
  refine wpAny_bind (wpAny_dictEntries gb ub ?_)
  by_cases same : es.size = fs.size
  case neg =>
    have no : (es.size == fs.size) = false := by simpa using same
    rw [if_pos (by simpa using same)]
    rw [no, Bool.false_and] at fin
    exact wpAny_bind (wpAny_rule (wpAny_pure fin))
  case pos =>
    have fin' : Q r s := by simpa [same] using fin
    have all := hits (by rw [la, lb]; exact same)
    rw [if_neg (by rw [same]; simp)]
    refine wpAny_bind (wpAny_dictEpoch ga ua (wpAny_bind ?_))
    rw [Std.Legacy.Range.forIn_eq_forIn_range']
    simp only [Std.Legacy.Range.size, Nat.sub_zero, Nat.add_sub_cancel, Nat.div_one]
    refine wpAny_forIn_list _ (fun rest q z => z = s ∧ q = (none, ()) ∧ ∃ i, rest = List.range' i (es.size - i) ∧ i ≤ es.size ∧ HitsD prog w A s ys (xs.drop i) r) _ ?_ ?_ _ _ ⟨rfl, rfl, 0, by simp, Nat.zero_le _, all⟩
    · rintro i rest q z ⟨rfl, rfl, i', hr, hi, pre⟩
      have lt : i' < es.size := Nat.lt_of_not_le fun c => by rw [Nat.sub_eq_zero_of_le c] at hr; simp at hr
      obtain ⟨rfl, hrest⟩ : i = i' ∧ rest = List.range' (i' + 1) (es.size - (i' + 1)) := by
        rw [show es.size - i' = (es.size - (i' + 1)) + 1 by omega, List.range'_succ] at hr
        exact List.cons.inj hr
      refine wpAny_bind (wpAny_dictEntries ga ua ?_)
      rw [Array.getElem?_eq_getElem lt]
      have lx : i < xs.length := by rw [la]; exact lt
      have ent : es[i] = entryOfKey (nestedKind prog w) xs[i] := by
        have q := entry_at ea i
        rw [Array.getElem?_eq_getElem lt, List.getElem?_eq_getElem lx] at q
        exact Option.some.inj q
      have cut : xs.drop i = xs[i] :: xs.drop (i + 1) := List.drop_eq_getElem_cons lx
      have key := ia _ (List.getElem_mem lx)
      rw [cut] at pre
      show wpAny _ _ (holding [es[i].key, es[i].val] _ >>= _) _ _ _
      rw [ent]
      refine wpAny_bind (wpAny_holding (wpAny_bind (wpAny_dictFind_heap (knd := nestedKind prog w) hu key gb ub eb ib nb (fun none_ => ?_) fun j p at_ => ?_)))
      · have gone : atKey ys xs[i].1 = none := by
          cases q : atKey ys xs[i].1 with
          | none => rfl
          | some p =>
            unfold atKey at q
            simp only [Option.map_eq_some_iff] at q
            obtain ⟨y, h1, h2⟩ := q
            obtain ⟨j, hj⟩ := List.mem_iff_getElem?.mp (List.mem_of_find?_eq_some h1)
            have h3 : y.1 = xs[i].1 := by simpa using List.find?_some h1
            exact absurd (by rw [hj, ← h3]) (none_ j y.2)
        have er : r = false := by
          cases pre with
          | miss _ => rfl
          | hit h1 _ _ => rw [gone] at h1; cases h1
        rw [er] at fin'
        refine wpAny_pure ?_
        show wpAny _ _ (if (!false) = true then _ else _) _ _ _
        rw [if_pos (by decide)]
        exact wpAny_pure (wpAny_pure fin')
      · have lj : j < fs.size := by rw [← lb]; exact (List.getElem?_eq_some_iff.mp at_).1
        have ent2 : fs[j] = entryOfKey (nestedKind prog w) (xs[i].1, p) := by
          have q := entry_at eb j
          rw [Array.getElem?_eq_getElem lj, at_] at q
          exact Option.some.inj q
        refine wpAny_bind (wpAny_dictEntries gb ub ?_)
        rw [Array.getElem?_eq_getElem lj, ent2]
        have found : atKey ys xs[i].1 = some p := atKey_of_get nb at_
        cases pre with
        | miss h1 => rw [found] at h1; cases h1
        | @hit _ _ p' e b' h1 h2 h3 =>
          rw [found] at h1
          cases h1
          refine wpAny_holding (h2 _ _ ?_)
          cases e with
          | false =>
            rw [Bool.false_and] at fin'
            show wpAny _ _ (if (!false) = true then _ else _) _ _ _
            rw [if_pos (by decide)]
            exact wpAny_pure (wpAny_pure fin')
          | true =>
            rw [Bool.true_and] at fin' ⊢
            show wpAny _ _ (if (!true) = true then _ else _) _ _ _
            rw [if_neg (by decide)]
            refine wpAny_bind (wpAny_dictEpoch ga ua ?_)
            rw [if_neg (by simp)]
            exact wpAny_pure ⟨rfl, rfl, i + 1, hrest, lt, h3⟩
    · rintro q z ⟨rfl, rfl, i, hn, hi, pre⟩
      have e : i = es.size := by
        have l := congrArg List.length hn
        simp at l
        omega
      refine wpAny_pure ?_
      rw [e, ← la, List.drop_length] at pre
      cases pre
      exact fin'
/-- a == b of dicts -/
theorem eq_H {E : Value → Shared → Prop} {a b : Addr} {xs ys : List (NestedKey × Addr × Value)} {r : Bool} {Q : Value → Shared → Prop} (hu : A.units + 10 < cLine) (ha : (a == sysModules) = false) (hb : (b == sysModules) = false)
    (da : s.heap.DictOfH (nestedKind prog w) a xs) (db : s.heap.DictOfH (nestedKind prog w) b ys) (hits : xs.length = ys.length → HitsD prog w A.in1 s ys xs r) (fin : Q (.bool (xs.length == ys.length && r)) s) :
    wpAny (model prog w) A (richCompare .Eq (.ref a) (.ref b)) Q E s := by
  have hr : A.in1.units + 8 < cLine := by rw [Around.in1_units]; omega
  refine wpAny_richCompare_same_room (op := .Eq) da.typeIs db.typeIs PySem.F.slot_dict_eq (wpAny_call_entry PySem.F.slot_dict_eq da.typeIs PySem.F.entry_dict_eq ?_ (PySem.F.args_dict_eq_2 _ _)) (by omega)
  show wpAny _ _ (Builtin.Dict.dictSlotArgs "__eq__" ⟨[.ref a, .ref b], []⟩ >>= _) _ _ s
  refine wpAny_bind ?_
  unfold Builtin.Dict.dictSlotArgs
  refine wpAny_bind (wpAny_notOrdered_dict da.typeIs (show wpAny _ _ (pure (Value.ref a, Value.ref b)) _ _ s from wpAny_pure ?_))
  refine wpAny_bind (wpAny_isInstance (T := "dict") db.typeIs PySem.F.sub_dict_dict ?_)
  simp only [Bool.not_true, Bool.false_eq_true, if_false]
  refine wpAny_bind (wpAny_pure (wpAny_bind (wpAny_pure (wpAny_bind (samePairs_H hr ha hb da db hits (wpAny_pure ⟨_, rfl, (fun z => nomatch z), by simpa using fin⟩))))))
theorem ne_H {E : Value → Shared → Prop} {a b : Addr} {xs ys : List (NestedKey × Addr × Value)} {r : Bool} {Q : Value → Shared → Prop} (hu : A.units + 10 < cLine) (ha : (a == sysModules) = false) (hb : (b == sysModules) = false)
    (da : s.heap.DictOfH (nestedKind prog w) a xs) (db : s.heap.DictOfH (nestedKind prog w) b ys) (hits : xs.length = ys.length → HitsD prog w A.in1 s ys xs r) (fin : Q (.bool (!(xs.length == ys.length && r))) s) :
    wpAny (model prog w) A (richCompare .NotEq (.ref a) (.ref b)) Q E s := by
  have hr : A.in1.units + 8 < cLine := by rw [Around.in1_units]; omega
  refine wpAny_richCompare_same_room (op := .NotEq) da.typeIs db.typeIs PySem.F.slot_dict_ne (wpAny_call_entry PySem.F.slot_dict_ne da.typeIs PySem.F.entry_dict_ne ?_ (PySem.F.args_dict_ne_2 _ _)) (by omega)
  show wpAny _ _ (Builtin.Dict.dictSlotArgs "__ne__" ⟨[.ref a, .ref b], []⟩ >>= _) _ _ s
  refine wpAny_bind ?_
  unfold Builtin.Dict.dictSlotArgs
  refine wpAny_bind (wpAny_notOrdered_dict da.typeIs (show wpAny _ _ (pure (Value.ref a, Value.ref b)) _ _ s from wpAny_pure ?_))
  refine wpAny_bind (wpAny_isInstance (T := "dict") db.typeIs PySem.F.sub_dict_dict ?_)
  simp only [Bool.not_true, Bool.false_eq_true, if_false]
  refine wpAny_bind (wpAny_pure (wpAny_bind (wpAny_pure (wpAny_bind (samePairs_H hr ha hb da db hits (wpAny_pure ⟨_, rfl, (fun z => nomatch z), by simpa using fin⟩))))))
/-- .. as things of others, where they are alike -/
theorem eqIn_H {a b : Addr} {xs ys : List (NestedKey × Addr × Value)} (hu : A.units + 10 < cLine) (ha : (a == sysModules) = false) (hb : (b == sysModules) = false)
    (da : s.heap.DictOfH (nestedKind prog w) a xs) (db : s.heap.DictOfH (nestedKind prog w) b ys) (hl : xs.length = ys.length) (hits : HitsD prog w A.in1 s ys xs true) : EqIn prog w A s (.ref a) (.ref b) true := by
  by_cases e : a = b
  · subst e
    exact (EqAt.same _).inModel prog w
  · exact EqIn.of_refs e fun E Q hq => eq_H hu ha hb da db (fun _ => hits) (by simpa [hl] using hq)
end
end PC
namespace PC
open PySem PySem.Spec PyProof.Rows L2
/-! ### {k: v} -/
/-- a dict at p whose only key is x, its thing y -/
def tDisp1 (w : World) (b : Bool) (tk tv : TE) : TE := fun σ H Q => ∀ p o, H p = none → (p == sysModules) = false → DObj w o [] [] → tk σ (upd H p (objO p o)) fun x H1 => tv σ H1 fun y H2 => H2 p = some (objO p o) ∧ ∃ j, KRel H2 b x j ∧ ∀ o', DObj w o' [j] [x, y] → Q (.ref p) (upd H2 p (objO p o'))
section
variable {X : Cx} {ek ev : Expr} {pos : Pos} {tk tv : TE}
theorem vv_one {x y : V} {vs : List (Value × Value)} (h : VV [(x, y)] vs) : ∃ u z, vs = [(u, z)] ∧ RelV x u ∧ RelV y z := by
  cases h with
  | cons h t => cases t; exact ⟨_, _, rfl, h.1, h.2⟩
theorem disp_pairs (hk : PE X ek tk) (hv : PE X ev tv) : PPs X pos [some ek] [ev] [(tk, tv)] := pps_cons hk hv pps_nil
/-- what is wanted of the pairs -/
def dispQ (w : World) (b : Bool) (p : Addr) (o : Obj) (Q : VK) : List (V × V) → Hp → Prop
  | [(x, y)], H2 => H2 p = some (objO p o) ∧ ∃ j, KRel H2 b x j ∧ ∀ o', DObj w o' [j] [x, y] → Q (.ref p) (upd H2 p (objO p o'))
  | _, _ => False
theorem dispQ_inv {w : World} {b : Bool} {p : Addr} {o : Obj} {Q : VK} {ps : List (V × V)} {H2 : Hp} (h : dispQ w b p o Q ps H2) : ∃ x y, ps = [(x, y)] ∧ H2 p = some (objO p o) ∧ ∃ j, KRel H2 b x j ∧ ∀ o', DObj w o' [j] [x, y] → Q (.ref p) (upd H2 p (objO p o')) := by
  unfold dispQ at h
  split at h
  · exact ⟨_, _, rfl, h⟩
  · exact h.elim
theorem one_fits (j : NestedKey) : [j].length ≤ sizeLine := by
  rw [sizeLine_eq]
  show (1 : Nat) ≤ 16777216
  omega
theorem pe_dispF (hk : PE X ek tk) (hv : PE X ev tv) : PE X (.Dict [some ek] [ev] pos) (tDisp1 X.w false tk tv) := by
  refine ⟨fun pins s σ H Q I h => ?_⟩
  obtain ⟨I1, z2, z3⟩ := dct_new (t' := s.toks) I (fun _ _ q => Heap.get?_push_of_some _ q) (Heap.get?_push_size s.heap (o := { cls := .type "dict", data := .dict #[] }) rfl)
  refine wpAny_Dict_walk (knd := mixKind X.prog X.w) rfl rfl (by simp) (by simp) (thn ((disp_pairs hk hv).run pins _ σ _ (dispQ X.w false s.heap.objs.size { cls := .type "dict", data := .dict #[] } Q) I1 (h _ _ z3 z2 dobj_empty)) fun vs s2 ⟨ps, H2, I2, rel, q⟩ => ?_)
  obtain ⟨x, y, rfl, e, j, kr, q⟩ := dispQ_inv q
  obtain ⟨u, z, rfl, rx, ry⟩ := vv_one rel
  obtain ⟨k', rfl, rfl⟩ := kr.flat
  have d : DctAt X.w H2 s.heap.objs.size [] [] := ⟨_, e, z2, dobj_empty⟩
  obtain ⟨_, _, _, xs, xr, hx, dd⟩ := dct_F (P := X.prog) I2.hok d .nil
  cases xr
  refine ⟨[(k', z)], ⟨kV_is rx, rfl, trivial⟩, dd, fun h' dd' sb => ?_⟩
  obtain ⟨o, e2, dO⟩ := dobj_F (P := X.prog) (ks := [nk k']) (vs := [kV k', y]) dd' (.cons ry .nil) (one_fits _)
  exact ⟨.ref s.heap.objs.size, _, dct_write I2 d sb e2, rfl, q o dO⟩
theorem pe_dispT (hu : X.A.units + 10 < cLine) (hk : PE X ek tk) (hv : PE X ev tv) : PE X (.Dict [some ek] [ev] pos) (tDisp1 X.w true tk tv) := by
  refine ⟨fun pins s σ H Q I h => ?_⟩
  obtain ⟨I1, z2, z3⟩ := dct_new (t' := s.toks) I (fun _ _ q => Heap.get?_push_of_some _ q) (Heap.get?_push_size s.heap (o := { cls := .type "dict", data := .dict #[] }) rfl)
  have hl := pairTrees_length [some ek] [ev] X.env pos rfl rfl
  have h1 : (pairTrees [some ek] [ev] X.env pos).length ≤ 15 := by
    rw [hl]
    show (1 : Nat) ≤ 15
    omega
  have h0 : pairTrees [some ek] [ev] X.env pos ≠ [] := fun e => by
    rw [e] at hl
    cases hl
  rw [arm_eval_Dict, zip_pairTrees [some ek] [ev] X.env pos rfl rfl, dictDisplay_pairs _ h0 (by omega)]
  refine wpAny_bind (wpAny_standAt (wpAny_bind (wpAny_subDictH (knd := nestedKind X.prog X.w) (show X.A.units + 8 < cLine by omega) h1 (thn ((disp_pairs hk hv).run pins _ σ _ (dispQ X.w true s.heap.objs.size { cls := .type "dict", data := .dict #[] } Q) I1 (h _ _ z3 z2 dobj_empty)) fun vs s2 ⟨ps, H2, I2, rel, q⟩ => ?_))))
  obtain ⟨x, y, rfl, e, j, kr, q⟩ := dispQ_inv q
  obtain ⟨u, z, rfl, rx, ry⟩ := vv_one rel
  obtain ⟨p, rfl, rfl⟩ := krel_true kr rx
  have d : DctAt X.w H2 s.heap.objs.size [] [] := ⟨_, e, z2, dobj_empty⟩
  obtain ⟨_, _, _, xs, xr, hx, dd⟩ := dct_H (P := X.prog) I2.hok d .nil
  cases xr
  refine ⟨[(j, p, z)], ⟨rfl, rfl, kr.is I2.hok, trivial⟩, dd, fun h' tk dd' sb => wpAny_pure ?_⟩
  obtain ⟨o, e2, dO⟩ := dobj_H (P := X.prog) (ks := [j]) (vs := [.ref p, y]) dd' (.cons ry .nil) (one_fits _)
  exact ⟨.ref s.heap.objs.size, _, dct_write I2 d sb e2, rfl, q o dO⟩
end
end PC
namespace PC
open PySem PySem.Spec PyProof.Rows L2
/-- where the program's own things stand -/
structure Glb where
  K : PySem.W.Frag
  mg : Str → Option Value
  cls : Nat → Addr
  fa : Nat → Addr
  fd : Nat → FuncData
  ps : Nat → List Str
  w : World
/-- an instance's class and attributes are plain -/
def ObjN (G : Glb) (c : Nat) (fn : List Str) : Prop := Cls G.K (G.cls c) ∧ ∀ f ∈ fn, NoAttr G.K (G.cls c) f
/-- what stands at a node's address, to be read -/
def AtF (G : Glb) (H : Hp) (a : Addr) : Tag → List V → Prop
  | .tup, vs => H a = some (.tup vs)
  | .lst, vs => H a = some (.lst vs)
  | .scr, vs => SqL G.K H a vs
  | .obj c fn, vs => ObjN G c fn ∧ fn.length = vs.length ∧ ∃ dx, H a = some (.ins (G.cls c) dx (fn.zip vs))
  | .dic ks, vs => DctAt G.w H a ks vs
/-- .. to be written -/
def AtM (G : Glb) (H : Hp) (a : Addr) : Tag → List V → Prop
  | .tup, vs => H a = some (.tup vs)
  | .lst, vs => H a = some (.lst vs)
  | .scr, _ => False
  | .obj c fn, vs => ObjN G c fn ∧ fn.length = vs.length ∧ ∃ dx, H a = some (.ins (G.cls c) dx (fn.zip vs))
  | .dic ks, vs => DctAt G.w H a ks vs
theorem AtM.f {G : Glb} {H : Hp} {a : Addr} : ∀ {g : Tag} {vs : List V}, AtM G H a g vs → AtF G H a g vs
  | .tup, _, h => h
  | .lst, _, h => h
  | .scr, _, h => h.elim
  | .obj _ _, _, h => h
  | .dic _, _, h => h
theorem AtM.trk {G : Glb} {H : Hp} {a : Addr} : ∀ {g : Tag} {vs : List V}, AtM G H a g vs → ∃ o, H a = some o
  | .tup, _, h => ⟨_, h⟩
  | .lst, _, h => ⟨_, h⟩
  | .scr, _, h => h.elim
  | .obj _ _, _, ⟨_, _, _, h⟩ => ⟨_, h⟩
  | .dic _, _, ⟨_, h, _⟩ => ⟨_, h⟩
theorem AtM.mono {G : Glb} {H H' : Hp} {a : Addr} (k : ∀ o, H a = some o → H' a = some o) : ∀ {g : Tag} {vs : List V}, AtM G H a g vs → AtM G H' a g vs
  | .tup, _, h => k _ h
  | .lst, _, h => k _ h
  | .scr, _, h => h.elim
  | .obj _ _, _, ⟨n, e, _, h⟩ => ⟨n, e, _, k _ h⟩
  | .dic _, _, ⟨o, h, r⟩ => ⟨o, k _ h, r⟩
theorem Rd.mono {H H' : Hp} {a : Addr} {u : HO} (k : ∀ o, H a = some o → H' a = some o) : Rd H a u → Rd H' a u
  | .inl h => .inl (k _ h)
  | .inr ⟨o, h⟩ => .inr ⟨o, k _ h⟩
theorem AtF.mono {G : Glb} {H H' : Hp} {a : Addr} (k : ∀ o, H a = some o → H' a = some o) : ∀ {g : Tag} {vs : List V}, AtF G H a g vs → AtF G H' a g vs
  | .tup, _, h => k _ h
  | .lst, _, h => k _ h
  | .scr, _, .inl h => .inl (Rd.mono k h)
  | .scr, _, .inr h => .inr h
  | .obj _ _, _, ⟨n, e, _, h⟩ => ⟨n, e, _, k _ h⟩
  | .dic _, _, ⟨o, h, r⟩ => ⟨o, k _ h, r⟩
mutual
/-- closed things: S: the addresses that never change any more -/
inductive RepC (G : Glb) (H : Hp) (S : Addr → Prop) : V → T → Prop where
  | non : RepC G H S .non .non
  | bl (b : Bool) : RepC G H S (.bl b) (.bl b)
  | int (i : Int) : RepC G H S (.int i) (.int i)
  | str (x : Str) : RepC G H S (.str x) (.str x)
  | nd {a : Addr} {g : Tag} {vs : List V} {xs : List T} : S a → AtF G H a g vs → RepCs G H S vs xs → RepC G H S (.ref a) (.nd g .fz xs)
  | ndK {a : Addr} {g : Tag} {vs : List V} {xs : List T} : (∀ H', AtF G H' a g vs) → RepCs G H S vs xs → RepC G H S (.ref a) (.nd g .fz xs)
inductive RepCs (G : Glb) (H : Hp) (S : Addr → Prop) : List V → List T → Prop where
  | nil : RepCs G H S [] []
  | cons {v : V} {vs : List V} {t : T} {ts : List T} : RepC G H S v t → RepCs G H S vs ts → RepCs G H S (v :: vs) (t :: ts)
end
mutual
/-- things without own ones: cells by r -/
inductive Rep0 (G : Glb) (H : Hp) (S : Addr → Prop) (r : List Addr) : V → T → Prop where
  | cl {v : V} {t : T} : RepC G H S v t → Rep0 G H S r v t
  | ref {k : Nat} {a : Addr} : r[k]? = some a → Rep0 G H S r (.ref a) (.ref k)
  | fzr {a : Addr} {vs : List V} {xs : List T} : S a → AtF G H a .tup vs → Rep0s G H S r vs xs → Rep0 G H S r (.ref a) (.nd .tup .fzr xs)
inductive Rep0s (G : Glb) (H : Hp) (S : Addr → Prop) (r : List Addr) : List V → List T → Prop where
  | nil : Rep0s G H S r [] []
  | cons {v : V} {vs : List V} {t : T} {ts : List T} : Rep0 G H S r v t → Rep0s G H S r vs ts → Rep0s G H S r (v :: vs) (t :: ts)
end
mutual
/-- any, its own things' addresses told -/
inductive RepO (G : Glb) (H : Hp) (S : Addr → Prop) (r : List Addr) : V → T → List Addr → Prop where
  | of0 {v : V} {t : T} : Rep0 G H S r v t → RepO G H S r v t []
  | own {a : Addr} {g : Tag} {vs : List V} {xs : List T} : AtM G H a g vs → RepCs G H S vs xs → RepO G H S r (.ref a) (.nd g .own xs) [a]
  | opn {a : Addr} {g : Tag} {vs : List V} {xs : List T} {F : List Addr} : AtM G H a g vs → RepOs G H S r vs xs F → RepO G H S r (.ref a) (.nd g .opn xs) (a :: F)
inductive RepOs (G : Glb) (H : Hp) (S : Addr → Prop) (r : List Addr) : List V → List T → List Addr → Prop where
  | nil : RepOs G H S r [] [] []
  | cons {v : V} {vs : List V} {t : T} {ts : List T} {F F' : List Addr} : RepO G H S r v t F → RepOs G H S r vs ts F' → RepOs G H S r (v :: vs) (t :: ts) (F ++ F')
end
section
variable {G : Glb} {H H' : Hp} {S S' : Addr → Prop} {r r' : List Addr}
mutual
theorem RepC.mono (hS : ∀ a, S a → S' a) (k : ∀ a o, S a → H a = some o → H' a = some o) : ∀ {v : V} {t : T}, RepC G H S v t → RepC G H' S' v t
  | _, _, .non => .non
  | _, _, .bl b => .bl b
  | _, _, .int i => .int i
  | _, _, .str x => .str x
  | _, _, .nd s h c => .nd (hS _ s) (h.mono fun o => k _ o s) (RepCs.mono hS k c)
  | _, _, .ndK h c => .ndK h (RepCs.mono hS k c)
theorem RepCs.mono (hS : ∀ a, S a → S' a) (k : ∀ a o, S a → H a = some o → H' a = some o) : ∀ {vs : List V} {ts : List T}, RepCs G H S vs ts → RepCs G H' S' vs ts
  | _, _, .nil => .nil
  | _, _, .cons h t => .cons (RepC.mono hS k h) (RepCs.mono hS k t)
end
mutual
theorem Rep0.mono (hS : ∀ a, S a → S' a) (k : ∀ a o, S a → H a = some o → H' a = some o) (hr : ∀ (i : Nat) (a : Addr), r[i]? = some a → r'[i]? = some a) : ∀ {v : V} {t : T}, Rep0 G H S r v t → Rep0 G H' S' r' v t
  | _, _, .cl h => .cl (h.mono hS k)
  | _, _, .ref h => .ref (hr _ _ h)
  | _, _, .fzr s h c => .fzr (hS _ s) (h.mono fun o => k _ o s) (Rep0s.mono hS k hr c)
theorem Rep0s.mono (hS : ∀ a, S a → S' a) (k : ∀ a o, S a → H a = some o → H' a = some o) (hr : ∀ (i : Nat) (a : Addr), r[i]? = some a → r'[i]? = some a) : ∀ {vs : List V} {ts : List T}, Rep0s G H S r vs ts → Rep0s G H' S' r' vs ts
  | _, _, .nil => .nil
  | _, _, .cons h t => .cons (Rep0.mono hS k hr h) (Rep0s.mono hS k hr t)
end
mutual
theorem RepO.mono (hS : ∀ a, S a → S' a) (k : ∀ a o, S a → H a = some o → H' a = some o) (hr : ∀ (i : Nat) (a : Addr), r[i]? = some a → r'[i]? = some a) :
    ∀ {v : V} {t : T} {F : List Addr}, (∀ a ∈ F, ∀ o, H a = some o → H' a = some o) → RepO G H S r v t F → RepO G H' S' r' v t F
  | _, _, _, _, .of0 h => .of0 (h.mono hS k hr)
  | _, _, _, kF, .own h c => .own (h.mono (kF _ (by simp))) (c.mono hS k)
  | _, _, _, kF, .opn h c => .opn (h.mono (kF _ (by simp))) (RepOs.mono hS k hr (fun a ha => kF a (List.mem_cons_of_mem _ ha)) c)
theorem RepOs.mono (hS : ∀ a, S a → S' a) (k : ∀ a o, S a → H a = some o → H' a = some o) (hr : ∀ (i : Nat) (a : Addr), r[i]? = some a → r'[i]? = some a) :
    ∀ {vs : List V} {ts : List T} {F : List Addr}, (∀ a ∈ F, ∀ o, H a = some o → H' a = some o) → RepOs G H S r vs ts F → RepOs G H' S' r' vs ts F
  | _, _, _, _, .nil => .nil
  | _, _, _, kF, .cons h t => .cons (RepO.mono hS k hr (fun a ha => kF a (List.mem_append_left _ ha)) h) (RepOs.mono hS k hr (fun a ha => kF a (List.mem_append_right _ ha)) t)
end
theorem RepCs.length : ∀ {vs : List V} {ts : List T}, RepCs G H S vs ts → vs.length = ts.length
  | _, _, .nil => rfl
  | _, _, .cons _ t => congrArg Nat.succ (RepCs.length t)
theorem Rep0s.length : ∀ {vs : List V} {ts : List T}, Rep0s G H S r vs ts → vs.length = ts.length
  | _, _, .nil => rfl
  | _, _, .cons _ t => congrArg Nat.succ (Rep0s.length t)
theorem RepOs.length : ∀ {vs : List V} {ts : List T} {F : List Addr}, RepOs G H S r vs ts F → vs.length = ts.length
  | _, _, _, .nil => rfl
  | _, _, _, .cons _ t => congrArg Nat.succ (RepOs.length t)
theorem RepCs.to0 : ∀ {vs : List V} {ts : List T}, RepCs G H S vs ts → Rep0s G H S r vs ts
  | _, _, .nil => .nil
  | _, _, .cons h t => .cons (.cl h) (RepCs.to0 t)
theorem Rep0s.toO : ∀ {vs : List V} {ts : List T}, Rep0s G H S r vs ts → RepOs G H S r vs ts []
  | _, _, .nil => .nil
  | _, _, .cons h t => by
    have := RepOs.cons (.of0 h) (Rep0s.toO t)
    simpa using this
theorem RepCs.toO {vs : List V} {ts : List T} (h : RepCs G H S vs ts) : RepOs G H S r vs ts [] := h.to0.toO
theorem RepCs.get : ∀ {vs : List V} {ts : List T} {i : Nat} {t : T}, RepCs G H S vs ts → ts[i]? = some t → ∃ v, vs[i]? = some v ∧ RepC G H S v t
  | _, _, _, _, .nil, e => by simp at e
  | _, _, 0, _, .cons h _, e => by
    simp at e
    subst e
    exact ⟨_, rfl, h⟩
  | _, _, i + 1, _, .cons _ t, e => by
    obtain ⟨v, h1, h2⟩ := RepCs.get (i := i) t (by simpa using e)
    exact ⟨v, by simpa using h1, h2⟩
theorem Rep0s.get : ∀ {vs : List V} {ts : List T} {i : Nat} {t : T}, Rep0s G H S r vs ts → ts[i]? = some t → ∃ v, vs[i]? = some v ∧ Rep0 G H S r v t
  | _, _, _, _, .nil, e => by simp at e
  | _, _, 0, _, .cons h _, e => by
    simp at e
    subst e
    exact ⟨_, rfl, h⟩
  | _, _, i + 1, _, .cons _ t, e => by
    obtain ⟨v, h1, h2⟩ := Rep0s.get (i := i) t (by simpa using e)
    exact ⟨v, by simpa using h1, h2⟩
theorem RepOs.get : ∀ {vs : List V} {ts : List T} {i : Nat} {t : T} {F : List Addr}, RepOs G H S r vs ts F → ts[i]? = some t → ∃ v F', vs[i]? = some v ∧ RepO G H S r v t F' ∧ F'.Sublist F
  | _, _, _, _, _, .nil, e => by simp at e
  | _, _, 0, _, _, .cons h _, e => by
    simp at e
    subst e
    exact ⟨_, _, rfl, h, List.sublist_append_left _ _⟩
  | _, _, i + 1, _, _, .cons _ t, e => by
    obtain ⟨v, F', h1, h2, h3⟩ := RepOs.get (i := i) t (by simpa using e)
    exact ⟨v, F', by simpa using h1, h2, h3.trans (List.sublist_append_right _ _)⟩
theorem RepCs.append : ∀ {vs ws : List V} {ts us : List T}, RepCs G H S vs ts → RepCs G H S ws us → RepCs G H S (vs ++ ws) (ts ++ us)
  | _, _, _, _, .nil, h => h
  | _, _, _, _, .cons h t, h' => .cons h (RepCs.append t h')
theorem Rep0s.append : ∀ {vs ws : List V} {ts us : List T}, Rep0s G H S r vs ts → Rep0s G H S r ws us → Rep0s G H S r (vs ++ ws) (ts ++ us)
  | _, _, _, _, .nil, h => h
  | _, _, _, _, .cons h t, h' => .cons h (Rep0s.append t h')
theorem RepOs.append : ∀ {vs ws : List V} {ts us : List T} {F F' : List Addr}, RepOs G H S r vs ts F → RepOs G H S r ws us F' → RepOs G H S r (vs ++ ws) (ts ++ us) (F ++ F')
  | _, _, _, _, _, _, .nil, h => h
  | _, _, _, _, _, _, .cons h t, h' => by
    have := RepOs.cons h (RepOs.append t h')
    simpa [List.append_assoc] using this
theorem RepCs.take : ∀ {vs : List V} {ts : List T} (n : Nat), RepCs G H S vs ts → RepCs G H S (vs.take n) (ts.take n)
  | _, _, 0, _ => .nil
  | _, _, _ + 1, .nil => .nil
  | _, _, n + 1, .cons h t => .cons h (RepCs.take n t)
theorem RepCs.drop : ∀ {vs : List V} {ts : List T} (n : Nat), RepCs G H S vs ts → RepCs G H S (vs.drop n) (ts.drop n)
  | _, _, 0, h => h
  | _, _, _ + 1, .nil => .nil
  | _, _, n + 1, .cons _ t => RepCs.drop n t
theorem Rep0s.take : ∀ {vs : List V} {ts : List T} (n : Nat), Rep0s G H S r vs ts → Rep0s G H S r (vs.take n) (ts.take n)
  | _, _, 0, _ => .nil
  | _, _, _ + 1, .nil => .nil
  | _, _, n + 1, .cons h t => .cons h (Rep0s.take n t)
theorem Rep0s.drop : ∀ {vs : List V} {ts : List T} (n : Nat), Rep0s G H S r vs ts → Rep0s G H S r (vs.drop n) (ts.drop n)
  | _, _, 0, h => h
  | _, _, _ + 1, .nil => .nil
  | _, _, n + 1, .cons _ t => Rep0s.drop n t
theorem RepCs.set : ∀ {vs : List V} {ts : List T} (i : Nat) {v : V} {t : T}, RepC G H S v t → RepCs G H S vs ts → RepCs G H S (vs.set i v) (ts.set i t)
  | _, _, _, _, _, _, .nil => .nil
  | _, _, 0, _, _, h, .cons _ t => .cons h t
  | _, _, i + 1, _, _, h, .cons h' t => .cons h' (RepCs.set i h t)
theorem RepCs.rep {vs : List V} {ts : List T} (h : RepCs G H S vs ts) : ∀ n : Nat, RepCs G H S (List.replicate n vs).flatten (List.replicate n ts).flatten
  | 0 => .nil
  | n + 1 => by
    rw [List.replicate_succ, List.replicate_succ, List.flatten_cons, List.flatten_cons]
    exact h.append (RepCs.rep h n)
theorem Rep0s.rep {vs : List V} {ts : List T} (h : Rep0s G H S r vs ts) : ∀ n : Nat, Rep0s G H S r (List.replicate n vs).flatten (List.replicate n ts).flatten
  | 0 => .nil
  | n + 1 => by
    rw [List.replicate_succ, List.replicate_succ, List.flatten_cons, List.flatten_cons]
    exact h.append (Rep0s.rep h n)
end
/-! ### the world -/
structure Wd where
  H : Hp
  r : List Addr
  st : Store
  S : Addr → Prop
def CellOk (G : Glb) (w : Wd) (k : Nat) (a : Addr) : T → Prop
  | .nd g .fz xs => w.S a ∧ ∃ vs, AtF G w.H a g vs ∧ RepCs G w.H w.S vs xs
  | .nd g .own xs => ¬ w.S a ∧ ∃ vs, AtM G w.H a g vs ∧ RepCs G w.H w.S vs xs
  | .nd g .lk xs => ¬ w.S a ∧ ∃ vs, AtM G w.H a g vs ∧ RepCs G w.H w.S vs xs
  | .nd g .opn xs => ¬ w.S a ∧ ∃ vs, AtM G w.H a g vs ∧ Rep0s G w.H w.S (w.r.take k) vs xs
  | .nd g .lkx xs => ¬ w.S a ∧ ∃ vs, AtM G w.H a g vs ∧ Rep0s G w.H w.S (w.r.take k) vs xs
  | _ => False
def Live (w : Wd) (a : Addr) : Prop := ∃ (k : Nat) (g : Tag) (o : Ow) (xs : List T), w.r[k]? = some a ∧ w.st[k]? = some (.nd g o xs) ∧ (o = .own ∨ o = .opn)
structure Wd.Ok (G : Glb) (w : Wd) : Prop where
  len : w.r.length = w.st.length
  nd : w.r.Nodup
  cells : ∀ k a t, w.r[k]? = some a → w.st[k]? = some t → CellOk G w k a t
  trk : ∀ a, w.S a → ∃ o, w.H a = some o
structure Ev (w w' : Wd) : Prop where
  rho : ∃ m, w'.r = w.r ++ m ∧ ∀ a ∈ m, w.H a = none
  s1 : ∀ a, w.S a → w'.S a
  s2 : ∀ a, w'.S a → w.S a ∨ w.H a = none ∨ Live w a
  keep : ∀ a o, w.H a = some o → ¬ Live w a → w'.H a = some o
  there : ∀ a o, w.H a = some o → ∃ o', w'.H a = some o'
  live : ∀ a, Live w' a → Live w a ∨ w.H a = none
theorem Ev.refl {w : Wd} : Ev w w := ⟨⟨[], by simp, by simp⟩, fun _ h => h, fun _ h => .inl h, fun _ _ h _ => h, fun _ o h => ⟨o, h⟩, fun _ h => .inl h⟩
theorem Ev.non_ {w w' : Wd} (e : Ev w w') {a : Addr} (h : w'.H a = none) : w.H a = none := by
  cases q : w.H a with
  | none => rfl
  | some o =>
    obtain ⟨o', h'⟩ := e.there a o q
    rw [h] at h'
    cases h'
theorem Ev.trans {w w1 w2 : Wd} (a : Ev w w1) (b : Ev w1 w2) : Ev w w2 := by
  obtain ⟨m1, e1, n1⟩ := a.rho
  obtain ⟨m2, e2, n2⟩ := b.rho
  refine ⟨⟨m1 ++ m2, by rw [e2, e1, List.append_assoc], fun x hx => ?_⟩, fun x h => b.s1 x (a.s1 x h), fun x h => ?_, fun x o h nl => ?_, fun x o h => ?_, fun x h => ?_⟩
  · rcases List.mem_append.mp hx with hx | hx
    · exact n1 x hx
    · exact a.non_ (n2 x hx)
  · rcases b.s2 x h with h | h | h
    · exact a.s2 x h
    · exact .inr (.inl (a.non_ h))
    · rcases a.live x h with h | h
      · exact .inr (.inr h)
      · exact .inr (.inl h)
  · refine b.keep x o (a.keep x o h nl) fun l => ?_
    rcases a.live x l with l | l
    · exact nl l
    · rw [l] at h
      cases h
  · obtain ⟨o1, h1⟩ := a.there x o h
    exact b.there x o1 h1
  · rcases b.live x h with h | h
    · exact a.live x h
    · exact .inr (a.non_ h)
theorem Wd.Ok.live {G : Glb} {w : Wd} (ok : w.Ok G) {a : Addr} (l : Live w a) : ¬ w.S a := by
  obtain ⟨k, g, o, xs, h1, h2, h3⟩ := l
  have c := ok.cells k a _ h1 h2
  rcases h3 with rfl | rfl
  · exact c.1
  · exact c.1
theorem Wd.Ok.cellTrk {G : Glb} {w : Wd} (ok : w.Ok G) {k : Nat} {a : Addr} (h : w.r[k]? = some a) : ∃ o, w.H a = some o := by
  have hk : k < w.st.length := by
    rw [← ok.len]
    exact (List.getElem?_eq_some_iff.mp h).1
  have c := ok.cells k a _ h (List.getElem?_eq_getElem hk)
  cases e : w.st[k] with
  | nd g o xs =>
    rw [e] at c
    cases o with
    | fz => exact ok.trk a c.1
    | fzr => exact c.elim
    | own => obtain ⟨_, vs, h, _⟩ := c; exact h.trk
    | opn => obtain ⟨_, vs, h, _⟩ := c; exact h.trk
    | lk => obtain ⟨_, vs, h, _⟩ := c; exact h.trk
    | lkx => obtain ⟨_, vs, h, _⟩ := c; exact h.trk
  | _ =>
    rw [e] at c
    exact c.elim
theorem Wd.Ok.memTrk {G : Glb} {w : Wd} (ok : w.Ok G) {a : Addr} (h : a ∈ w.r) : ∃ o, w.H a = some o := by
  obtain ⟨k, hk⟩ := List.mem_iff_getElem?.mp h
  exact ok.cellTrk hk
theorem Live.mem {w : Wd} {a : Addr} (l : Live w a) : a ∈ w.r := by
  obtain ⟨k, _, _, _, h, _⟩ := l
  exact List.mem_of_getElem? h
/-- frozen things stay -/
theorem Ev.frz {G : Glb} {w w' : Wd} (e : Ev w w') (ok : w.Ok G) : ∀ a o, w.S a → w.H a = some o → w'.H a = some o := fun a o s h => e.keep a o h fun l => ok.live l s
theorem Ev.rget {w w' : Wd} (e : Ev w w') (i : Nat) (a : Addr) (h : w.r[i]? = some a) : w'.r[i]? = some a := by
  obtain ⟨m, q, _⟩ := e.rho
  rw [q, List.getElem?_append_left (List.getElem?_eq_some_iff.mp h).1]
  exact h
abbrev Wd.RC (G : Glb) (w : Wd) : V → T → Prop := RepC G w.H w.S
abbrev Wd.R0 (G : Glb) (w : Wd) : V → T → Prop := Rep0 G w.H w.S w.r
abbrev Wd.RO (G : Glb) (w : Wd) : V → T → List Addr → Prop := RepO G w.H w.S w.r
abbrev Wd.RCs (G : Glb) (w : Wd) : List V → List T → Prop := RepCs G w.H w.S
abbrev Wd.R0s (G : Glb) (w : Wd) : List V → List T → Prop := Rep0s G w.H w.S w.r
abbrev Wd.ROs (G : Glb) (w : Wd) : List V → List T → List Addr → Prop := RepOs G w.H w.S w.r
section
variable {G : Glb} {w w' w0 : Wd}
theorem Ev.rc (e : Ev w w') (ok : w.Ok G) {v : V} {t : T} (h : w.RC G v t) : w'.RC G v t := h.mono e.s1 (e.frz ok)
theorem Ev.rcs (e : Ev w w') (ok : w.Ok G) {v : List V} {t : List T} (h : w.RCs G v t) : w'.RCs G v t := h.mono e.s1 (e.frz ok)
theorem Ev.r0 (e : Ev w w') (ok : w.Ok G) {v : V} {t : T} (h : w.R0 G v t) : w'.R0 G v t := h.mono e.s1 (e.frz ok) e.rget
theorem Ev.r0s (e : Ev w w') (ok : w.Ok G) {v : List V} {t : List T} (h : w.R0s G v t) : w'.R0s G v t := h.mono e.s1 (e.frz ok) e.rget
/-- own things' addresses: new since w0, in nobody else's hands -/
structure Own (w0 w : Wd) (F : List Addr) : Prop where
  nd : F.Nodup
  new : ∀ a ∈ F, w0.H a = none
  ns : ∀ a ∈ F, ¬ w.S a
  nr : ∀ a ∈ F, a ∉ w.r
theorem Own.nil : Own w0 w [] := ⟨List.nodup_nil, by simp, by simp, by simp⟩
mutual
theorem RepO.trk {H : Hp} {S : Addr → Prop} {r : List Addr} : ∀ {v : V} {t : T} {F : List Addr}, RepO G H S r v t F → ∀ a ∈ F, ∃ o, H a = some o
  | _, _, _, .of0 _, a, ha => by simp at ha
  | _, _, _, .own h _, a, ha => by
    simp at ha
    subst ha
    exact h.trk
  | _, _, _, .opn h c, a, ha => by
    rcases List.mem_cons.mp ha with e | ha
    · rw [e]
      exact h.trk
    · exact RepOs.trk c a ha
theorem RepOs.trk {H : Hp} {S : Addr → Prop} {r : List Addr} : ∀ {v : List V} {t : List T} {F : List Addr}, RepOs G H S r v t F → ∀ a ∈ F, ∃ o, H a = some o
  | _, _, _, .nil, a, ha => by simp at ha
  | _, _, _, .cons h c, a, ha => by
    rcases List.mem_append.mp ha with ha | ha
    · exact RepO.trk h a ha
    · exact RepOs.trk c a ha
end
theorem Own.mono {F : List Addr} (o : Own w0 w F) (e : Ev w w') (t : ∀ a ∈ F, ∃ o, w.H a = some o) : Own w0 w' F := by
  refine ⟨o.nd, o.new, fun a ha h => ?_, fun a ha h => ?_⟩
  · rcases e.s2 a h with h | h | h
    · exact o.ns a ha h
    · obtain ⟨u, q⟩ := t a ha
      rw [h] at q
      cases q
    · exact o.nr a ha h.mem
  · obtain ⟨m, q, n⟩ := e.rho
    rw [q] at h
    rcases List.mem_append.mp h with h | h
    · exact o.nr a ha h
    · obtain ⟨u, z⟩ := t a ha
      rw [n a h] at z
      cases z
theorem Ev.ro (e : Ev w w') (ok : w.Ok G) {v : V} {t : T} {F : List Addr} (o : Own w0 w F) (h : w.RO G v t F) : w'.RO G v t F :=
  h.mono e.s1 (e.frz ok) e.rget fun a ha u q => e.keep a u q fun l => o.nr a ha l.mem
theorem Ev.ros (e : Ev w w') (ok : w.Ok G) {v : List V} {t : List T} {F : List Addr} (o : Own w0 w F) (h : w.ROs G v t F) : w'.ROs G v t F :=
  h.mono e.s1 (e.frz ok) e.rget fun a ha u q => e.keep a u q fun l => o.nr a ha l.mem
theorem Own.sub {F F' : List Addr} (o : Own w0 w F) (s : F'.Sublist F) : Own w0 w F' :=
  ⟨o.nd.sublist s, fun a ha => o.new a (s.subset ha), fun a ha => o.ns a (s.subset ha), fun a ha => o.nr a (s.subset ha)⟩
theorem Own.back {w00 : Wd} {F : List Addr} (o : Own w0 w F) (e : Ev w00 w0) : Own w00 w F := ⟨o.nd, fun a ha => e.non_ (o.new a ha), o.ns, o.nr⟩
/-- of two operands, the second one's new since w1 -/
theorem Own.both {w1 : Wd} {F F' : List Addr} (o : Own w0 w F) (o' : Own w1 w F') (e : Ev w0 w1) (t : ∀ a ∈ F, ∃ u, w1.H a = some u) : Own w0 w (F ++ F') := by
  refine ⟨List.nodup_append.mpr ⟨o.nd, o'.nd, fun a ha b hb q => ?_⟩, fun a ha => ?_, fun a ha => ?_, fun a ha => ?_⟩
  · subst q
    obtain ⟨u, z⟩ := t a ha
    rw [o'.new a hb] at z
    cases z
  · rcases List.mem_append.mp ha with h | h
    · exact o.new a h
    · exact e.non_ (o'.new a h)
  · rcases List.mem_append.mp ha with h | h
    · exact o.ns a h
    · exact o'.ns a h
  · rcases List.mem_append.mp ha with h | h
    · exact o.nr a h
    · exact o'.nr a h
end
end PC
namespace PC
open PySem PySem.Spec PyProof.Rows L2
variable {G : Glb}
/-! ### steps of the world -/
/-- a new thing at p, frozen; own -/
def Wd.addF (w : Wd) (p : Addr) (o : HO) : Wd := ⟨upd w.H p o, w.r, w.st, fun a => w.S a ∨ a = p⟩
def Wd.addO (w : Wd) (p : Addr) (o : HO) : Wd := ⟨upd w.H p o, w.r, w.st, w.S⟩
theorem upd_old {H : Hp} {p : Addr} {o : HO} (hp : H p = none) (a : Addr) (u : HO) (h : H a = some u) : upd H p o a = some u := by
  rw [upd_ne (ne_of_none h hp)]
  exact h
theorem CellOk.mono {w w' : Wd} {k : Nat} {a : Addr} {t : T} (hS : ∀ b, w.S b → w'.S b) (hn : ¬ w.S a → ¬ w'.S a) (kS : ∀ b o, w.S b → w.H b = some o → w'.H b = some o) (ka : ∀ o, w.H a = some o → w'.H a = some o)
    (hr : ∀ (i : Nat) (b : Addr), (w.r.take k)[i]? = some b → (w'.r.take k)[i]? = some b) (c : CellOk G w k a t) : CellOk G w' k a t := by
  cases t with
  | nd g o xs =>
    cases o with
    | fz => obtain ⟨s, vs, h, q⟩ := c; exact ⟨hS a s, vs, h.mono fun o => kS _ o s, q.mono hS kS⟩
    | fzr => exact c
    | own => obtain ⟨s, vs, h, q⟩ := c; exact ⟨hn s, vs, h.mono ka, q.mono hS kS⟩
    | lk => obtain ⟨s, vs, h, q⟩ := c; exact ⟨hn s, vs, h.mono ka, q.mono hS kS⟩
    | opn => obtain ⟨s, vs, h, q⟩ := c; exact ⟨hn s, vs, h.mono ka, q.mono hS kS hr⟩
    | lkx => obtain ⟨s, vs, h, q⟩ := c; exact ⟨hn s, vs, h.mono ka, q.mono hS kS hr⟩
  | _ => exact c
theorem Wd.Ok.addF {w : Wd} (ok : w.Ok G) {p : Addr} {o : HO} (hp : w.H p = none) : (w.addF p o).Ok G where
  len := ok.len
  nd := ok.nd
  cells := fun k a t h1 h2 => by
    have hne : a ≠ p := fun e => by
      obtain ⟨u, q⟩ := ok.cellTrk h1
      rw [e, hp] at q
      cases q
    refine (ok.cells k a t h1 h2).mono (fun _ s => .inl s) (fun n => fun s => s.elim n hne) (fun b u _ h => upd_old hp b u h) (fun u h => upd_old hp a u h) fun _ _ h => h
  trk := fun a s => by
    rcases s with s | s
    · obtain ⟨u, h⟩ := ok.trk a s
      exact ⟨u, upd_old hp a u h⟩
    · exact ⟨o, by rw [s]; exact upd_same⟩
theorem Wd.Ok.addO {w : Wd} (ok : w.Ok G) {p : Addr} {o : HO} (hp : w.H p = none) : (w.addO p o).Ok G where
  len := ok.len
  nd := ok.nd
  cells := fun k a t h1 h2 => CellOk.mono (w := w) (w' := w.addO p o) (fun _ s => s) (fun n => n) (fun b u _ h => upd_old hp b u h) (fun u h => upd_old hp a u h) (fun _ _ h => h) (ok.cells k a t h1 h2)
  trk := fun a s => by
    obtain ⟨u, h⟩ := ok.trk a s
    exact ⟨u, upd_old hp a u h⟩
theorem Ev.addF {w : Wd} {p : Addr} {o : HO} (hp : w.H p = none) : Ev w (w.addF p o) :=
  ⟨⟨[], by simp [Wd.addF], by simp⟩, fun _ s => .inl s, fun a s => s.elim .inl fun e => .inr (.inl (by rw [e]; exact hp)), fun a u h _ => upd_old hp a u h, fun a u h => ⟨u, upd_old hp a u h⟩, fun a l => .inl l⟩
theorem Ev.addO {w : Wd} {p : Addr} {o : HO} (hp : w.H p = none) : Ev w (w.addO p o) :=
  ⟨⟨[], by simp [Wd.addO], by simp⟩, fun _ s => s, fun a s => .inl s, fun a u h _ => upd_old hp a u h, fun a u h => ⟨u, upd_old hp a u h⟩, fun a l => .inl l⟩
/-- the heap as it is; F: own things that were frozen -/
structure Mv (G : Glb) (w w' : Wd) (F : List Addr) : Prop where
  H : w'.H = w.H
  r : w'.r = w.r
  s1 : ∀ a, w.S a → w'.S a
  s2 : ∀ a, w'.S a → w.S a ∨ a ∈ F ∨ Live w a
  live : ∀ a, Live w' a → Live w a
  ok : w'.Ok G
theorem Mv.refl {w : Wd} (ok : w.Ok G) : Mv G w w [] := ⟨rfl, rfl, fun _ s => s, fun _ s => .inl s, fun _ l => l, ok⟩
theorem Mv.trans {w w1 w2 : Wd} {F F' : List Addr} (a : Mv G w w1 F) (b : Mv G w1 w2 F') : Mv G w w2 (F ++ F') where
  H := b.H.trans a.H
  r := b.r.trans a.r
  s1 := fun x s => b.s1 x (a.s1 x s)
  s2 := fun x s => by
    rcases b.s2 x s with h | h | h
    · rcases a.s2 x h with h | h | h
      · exact .inl h
      · exact .inr (.inl (List.mem_append_left _ h))
      · exact .inr (.inr h)
    · exact .inr (.inl (List.mem_append_right _ h))
    · exact .inr (.inr (a.live x h))
  live := fun x l => a.live x (b.live x l)
  ok := b.ok
theorem Mv.imp {w w' : Wd} {F F' : List Addr} (a : Mv G w w' F) (h : ∀ x ∈ F, x ∈ F') : Mv G w w' F' := ⟨a.H, a.r, a.s1, fun x s => (a.s2 x s).imp id (Or.imp (h x) id), a.live, a.ok⟩
theorem Mv.ev {w0 w w' : Wd} {F : List Addr} (m : Mv G w w' F) (e : Ev w0 w) (n : ∀ a ∈ F, w0.H a = none) : Ev w0 w' where
  rho := by rw [m.r]; exact e.rho
  s1 := fun a s => m.s1 a (e.s1 a s)
  s2 := fun a s => by
    rcases m.s2 a s with h | h | h
    · exact e.s2 a h
    · exact .inr (.inl (n a h))
    · rcases e.live a h with h | h
      · exact .inr (.inr h)
      · exact .inr (.inl h)
  keep := fun a o h nl => by rw [m.H]; exact e.keep a o h nl
  there := fun a o h => by rw [m.H]; exact e.there a o h
  live := fun a l => e.live a (m.live a l)
theorem Mv.own {w0 w w' : Wd} {F F' : List Addr} (m : Mv G w w' F) (o : Own w0 w F') (d : ∀ a ∈ F', a ∉ F) : Own w0 w' F' :=
  ⟨o.nd, o.new, fun a ha s => by
    rcases m.s2 a s with h | h | h
    · exact o.ns a ha h
    · exact d a ha h
    · exact o.nr a ha h.mem, fun a ha => by rw [m.r]; exact o.nr a ha⟩
theorem Mv.rc {w w' : Wd} {F : List Addr} (m : Mv G w w' F) {v : V} {t : T} (h : w.RC G v t) : w'.RC G v t := by
  show RepC G w'.H w'.S v t
  rw [m.H]
  exact RepC.mono m.s1 (fun _ _ _ q => q) h
theorem Mv.rcs {w w' : Wd} {F : List Addr} (m : Mv G w w' F) {v : List V} {t : List T} (h : w.RCs G v t) : w'.RCs G v t := by
  show RepCs G w'.H w'.S v t
  rw [m.H]
  exact RepCs.mono m.s1 (fun _ _ _ q => q) h
theorem Mv.r0 {w w' : Wd} {F : List Addr} (m : Mv G w w' F) {v : V} {t : T} (h : w.R0 G v t) : w'.R0 G v t := by
  show Rep0 G w'.H w'.S w'.r v t
  rw [m.H, m.r]
  exact Rep0.mono m.s1 (fun _ _ _ q => q) (fun _ _ q => q) h
theorem Mv.ro {w w' : Wd} {F F' : List Addr} (m : Mv G w w' F) {v : V} {t : T} (h : w.RO G v t F') : w'.RO G v t F' := by
  show RepO G w'.H w'.S w'.r v t F'
  rw [m.H, m.r]
  exact RepO.mono m.s1 (fun _ _ _ q => q) (fun _ _ q => q) (fun _ _ _ q => q) h
theorem Mv.ros {w w' : Wd} {F F' : List Addr} (m : Mv G w w' F) {v : List V} {t : List T} (h : w.ROs G v t F') : w'.ROs G v t F' := by
  show RepOs G w'.H w'.S w'.r v t F'
  rw [m.H, m.r]
  exact RepOs.mono m.s1 (fun _ _ _ q => q) (fun _ _ q => q) (fun _ _ _ q => q) h
/-- one address more is frozen -/
def Wd.addS (w : Wd) (a : Addr) : Wd := ⟨w.H, w.r, w.st, fun b => w.S b ∨ b = a⟩
theorem Mv.addS {w : Wd} (ok : w.Ok G) {a : Addr} (t : ∃ o, w.H a = some o) (hr : a ∉ w.r) : Mv G w (w.addS a) [a] where
  H := rfl
  r := rfl
  s1 := fun _ s => .inl s
  s2 := fun b s => s.elim .inl fun e => .inr (.inl (by simp [e]))
  live := fun _ l => l
  ok := {
    len := ok.len
    nd := ok.nd
    cells := fun k b t h1 h2 => by
      have hne : b ≠ a := fun e => hr (by rw [← e]; exact List.mem_of_getElem? h1)
      exact (ok.cells k b t h1 h2).mono (fun _ s => .inl s) (fun n s => s.elim n hne) (fun _ _ _ q => q) (fun _ q => q) fun _ _ q => q
    trk := fun b s => by
      rcases s with s | s
      · exact ok.trk b s
      · rw [s]; exact t }
theorem nodup_at {r : List Addr} (nd : r.Nodup) {i j : Nat} {a : Addr} (h1 : r[i]? = some a) (h2 : r[j]? = some a) : i = j := by
  obtain ⟨hi, e1⟩ := List.getElem?_eq_some_iff.mp h1
  obtain ⟨hj, e2⟩ := List.getElem?_eq_some_iff.mp h2
  exact (List.getElem_inj nd).mp (e1.trans e2.symm)
theorem Wd.Ok.cell {w : Wd} (ok : w.Ok G) {k : Nat} {t : T} (h : w.st[k]? = some t) : ∃ a, w.r[k]? = some a ∧ CellOk G w k a t := by
  have hk : k < w.r.length := by
    rw [ok.len]
    exact (List.getElem?_eq_some_iff.mp h).1
  exact ⟨w.r[k], List.getElem?_eq_getElem hk, ok.cells k _ t (List.getElem?_eq_getElem hk) h⟩
theorem live_set {w : Wd} {k : Nat} {a b : Addr} {t : T} (h1 : w.r[k]? = some a) (nd : w.r.Nodup) {H' : Hp} {S' : Addr → Prop} (l : Live ⟨H', w.r, w.st.set k t, S'⟩ b) : Live w b ∨ b = a := by
  obtain ⟨j, g, o, xs, q1, q2, q3⟩ := l
  by_cases e : k = j
  · subst e
    have q1' : w.r[k]? = some b := q1
    rw [h1] at q1'
    exact .inr (Option.some.inj q1').symm
  · have q2' : (w.st.set k t)[j]? = some (.nd g o xs) := q2
    rw [List.getElem?_set_ne e] at q2'
    exact .inl ⟨j, g, o, xs, q1, q2', q3⟩
/-- the cell k is frozen -/
theorem Mv.frz {w : Wd} (ok : w.Ok G) {k : Nat} {a : Addr} {g : Tag} {xs : List T} (h1 : w.r[k]? = some a) (h2 : w.st[k]? = some (.nd g .own xs)) :
    Mv G w ⟨w.H, w.r, w.st.set k (.nd g .fz xs), fun b => w.S b ∨ b = a⟩ [] := by
  have c : CellOk G w k a (.nd g .own xs) := ok.cells k a _ h1 h2
  obtain ⟨ns, vs, h, q⟩ := c
  have la : Live w a := ⟨k, g, .own, xs, h1, h2, .inl rfl⟩
  refine ⟨rfl, rfl, fun _ s => .inl s, fun b s => s.elim .inl fun e => .inr (.inr (by rw [e]; exact la)), fun b l => ?_, ?_⟩
  · rcases live_set h1 ok.nd l with l | e
    · exact l
    · rw [e]; exact la
  · refine ⟨by simp [ok.len], ok.nd, fun j b t q1 q2 => ?_, fun b s => ?_⟩
    · by_cases e : k = j
      · subst e
        have eb : a = b := Option.some.inj (h1.symm.trans q1)
        subst eb
        have hk : k < w.st.length := (List.getElem?_eq_some_iff.mp h2).1
        have q2' : (w.st.set k (.nd g .fz xs))[k]? = some t := q2
        rw [List.getElem?_set_self hk] at q2'
        cases q2'
        exact ⟨.inr rfl, vs, h.f, q.mono (fun _ s => .inl s) fun _ _ _ z => z⟩
      · have q2' : (w.st.set k (.nd g .fz xs))[j]? = some t := q2
        rw [List.getElem?_set_ne e] at q2'
        have hne : b ≠ a := fun z => e (nodup_at ok.nd h1 (z ▸ q1))
        exact (ok.cells j b t q1 q2').mono (fun _ s => .inl s) (fun n s => s.elim n hne) (fun _ _ _ z => z) (fun _ z => z) fun _ _ z => z
    · rcases s with s | s
      · exact ok.trk b s
      · rw [s]; exact h.trk
mutual
/-- freezing keeps -/
theorem fz_ok {w0 : Wd} : ∀ (t : T) {w : Wd} {v : V} {F : List Addr} {t' : T} {st' : Store}, w.Ok G → w.RO G v t F → Own w0 w F → fz t w.st = some (t', st') →
    ∃ w', w'.st = st' ∧ Mv G w w' F ∧ w'.RC G v t'
  | .nd g o xs, w, v, F, t', st', ok, h, ow, e => by
    cases o with
    | own =>
      simp only [fz, Option.some.injEq, Prod.mk.injEq] at e
      obtain ⟨rfl, rfl⟩ := e
      cases h with
      | of0 h => cases h with | cl h => cases h
      | own h c =>
        rename_i a vs
        exact ⟨w.addS a, rfl, Mv.addS ok h.trk (ow.nr a (by simp)), .nd (.inr rfl) h.f (c.mono (fun _ s => .inl s) fun _ _ _ z => z)⟩
    | opn =>
      simp only [fz] at e
      split at e
      · rename_i ys st1 e1
        simp only [Option.some.injEq, Prod.mk.injEq] at e
        obtain ⟨rfl, rfl⟩ := e
        cases h with
        | of0 h => cases h with | cl h => cases h
        | opn h c =>
          rename_i a vs F1
          have ow1 : Own w0 w F1 := ow.sub (List.sublist_cons_self _ _)
          have na : a ∉ F1 := (List.nodup_cons.mp ow.nd).1
          obtain ⟨w1, e2, m1, c1⟩ := fzs_ok xs ok c ow1 e1
          have h1 : AtM G w1.H a g vs := by rw [m1.H]; exact h
          have m2 : Mv G w1 (w1.addS a) [a] := Mv.addS m1.ok h1.trk (by rw [m1.r]; exact ow.nr a (by simp))
          refine ⟨w1.addS a, e2, (m1.trans m2).imp fun x hx => ?_, .nd (.inr rfl) h1.f (m2.rcs c1)⟩
          rcases List.mem_append.mp hx with hx | hx
          · exact List.mem_cons_of_mem _ hx
          · rw [List.mem_singleton.mp hx]; exact List.mem_cons_self
      · cases e
    | fz =>
      simp only [fz, Option.some.injEq, Prod.mk.injEq] at e
      obtain ⟨rfl, rfl⟩ := e
      cases h with
      | of0 h => cases h with | cl h => exact ⟨w, rfl, Mv.refl ok, h⟩
    | fzr =>
      simp only [fz] at e
      split at e
      · rename_i ys st1 e1
        simp only [Option.some.injEq, Prod.mk.injEq] at e
        obtain ⟨rfl, rfl⟩ := e
        cases h with
        | of0 h =>
          cases h with
          | cl h => cases h
          | fzr s h c =>
            obtain ⟨w1, e2, m1, c1⟩ := fzs_ok (w0 := w0) xs ok c.toO Own.nil e1
            exact ⟨w1, e2, m1, .nd (m1.s1 _ s) (by rw [m1.H]; exact h) c1⟩
      · cases e
    | lk => simp only [fz] at e; cases e
    | lkx => simp only [fz] at e; cases e
  | .ref k, w, v, F, t', st', ok, h, ow, e => by
    simp only [fz] at e
    cases h with
    | of0 h =>
      cases h with
      | cl h => cases h
      | ref hk =>
        rename_i a
        split at e
        · rename_i g xs hs
          simp only [Option.some.injEq, Prod.mk.injEq] at e
          obtain ⟨rfl, rfl⟩ := e
          have c : CellOk G w k a (.nd g .own xs) := ok.cells k a _ hk hs
          obtain ⟨ns, vs, h, q⟩ := c
          exact ⟨_, rfl, Mv.frz ok hk hs, .nd (.inr rfl) h.f (q.mono (fun _ s => .inl s) fun _ _ _ z => z)⟩
        · rename_i g xs hs
          simp only [Option.some.injEq, Prod.mk.injEq] at e
          obtain ⟨rfl, rfl⟩ := e
          have c : CellOk G w k a (.nd g .fz xs) := ok.cells k a _ hk hs
          obtain ⟨s, vs, h, q⟩ := c
          exact ⟨w, rfl, Mv.refl ok, .nd s h q⟩
        · cases e
  | .non, w, v, F, t', st', ok, h, ow, e => by
    simp only [fz, Option.some.injEq, Prod.mk.injEq] at e
    obtain ⟨rfl, rfl⟩ := e
    cases h with | of0 h => cases h with | cl h => exact ⟨w, rfl, Mv.refl ok, h⟩
  | .bl b, w, v, F, t', st', ok, h, ow, e => by
    simp only [fz, Option.some.injEq, Prod.mk.injEq] at e
    obtain ⟨rfl, rfl⟩ := e
    cases h with | of0 h => cases h with | cl h => exact ⟨w, rfl, Mv.refl ok, h⟩
  | .int i, w, v, F, t', st', ok, h, ow, e => by
    simp only [fz, Option.some.injEq, Prod.mk.injEq] at e
    obtain ⟨rfl, rfl⟩ := e
    cases h with | of0 h => cases h with | cl h => exact ⟨w, rfl, Mv.refl ok, h⟩
  | .str x, w, v, F, t', st', ok, h, ow, e => by
    simp only [fz, Option.some.injEq, Prod.mk.injEq] at e
    obtain ⟨rfl, rfl⟩ := e
    cases h with | of0 h => cases h with | cl h => exact ⟨w, rfl, Mv.refl ok, h⟩
  | .exc c, w, v, F, t', st', ok, h, ow, e => by
    cases h with | of0 h => cases h with | cl h => cases h
theorem fzs_ok {w0 : Wd} : ∀ (ts : List T) {w : Wd} {vs : List V} {F : List Addr} {ts' : List T} {st' : Store}, w.Ok G → w.ROs G vs ts F → Own w0 w F → fzs ts w.st = some (ts', st') →
    ∃ w', w'.st = st' ∧ Mv G w w' F ∧ w'.RCs G vs ts'
  | [], w, vs, F, ts', st', ok, h, ow, e => by
    simp only [fzs, Option.some.injEq, Prod.mk.injEq] at e
    obtain ⟨rfl, rfl⟩ := e
    cases h
    exact ⟨w, rfl, Mv.refl ok, .nil⟩
  | t :: ts, w, vs, F, ts', st', ok, h, ow, e => by
    simp only [fzs] at e
    cases h with
    | cons h hs =>
      rename_i v vs F1 F2
      split at e
      · rename_i y st1 e1
        split at e
        · rename_i ys st2 e2
          simp only [Option.some.injEq, Prod.mk.injEq] at e
          obtain ⟨rfl, rfl⟩ := e
          have dj := List.nodup_append.mp ow.nd
          obtain ⟨w1, q1, m1, c1⟩ := fz_ok t ok h (ow.sub (List.sublist_append_left _ _)) e1
          subst q1
          have ow2 : Own w0 w1 F2 := m1.own (ow.sub (List.sublist_append_right _ _)) fun a ha hb => dj.2.2 a hb a ha rfl
          obtain ⟨w2, q2, m2, c2⟩ := fzs_ok ts m1.ok (m1.ros hs) ow2 e2
          exact ⟨w2, q2, m1.trans m2, .cons (m2.rc c1) c2⟩
        · cases e
      · cases e
end
end PC
namespace PC
open PySem PySem.Spec PyProof.Rows L2
variable {G : Glb}
/-! ### readings by the evaluator -/
structure SlotR (G : Glb) (w : Wd) (σ : L2.St) (sl : Slots) : Prop where
  len : sl.length = σ.length
  get : ∀ (i : Nat) (t : T), sl[i]? = some (some t) → ∃ v, σ[i]? = some (some v) ∧ w.R0 G v t
theorem SlotR.mono {w w' : Wd} {σ : L2.St} {sl : Slots} (h : SlotR G w σ sl) (e : Ev w w') (ok : w.Ok G) : SlotR G w' σ sl :=
  ⟨h.len, fun i t q => by
    obtain ⟨v, h1, h2⟩ := h.get i t q
    exact ⟨v, h1, e.r0 ok h2⟩⟩
theorem SlotR.mv {w w' : Wd} {F : List Addr} {σ : L2.St} {sl : Slots} (h : SlotR G w σ sl) (m : Mv G w w' F) : SlotR G w' σ sl :=
  ⟨h.len, fun i t q => by
    obtain ⟨v, h1, h2⟩ := h.get i t q
    exact ⟨v, h1, m.r0 h2⟩⟩
theorem SlotR.set {w : Wd} {σ : L2.St} {sl : Slots} (h : SlotR G w σ sl) (i : Nat) {v : V} {t : T} (r : w.R0 G v t) : SlotR G w (σ.set i (some v)) (sl.set i (some t)) := by
  refine ⟨by simp [h.len], fun j u q => ?_⟩
  by_cases e : i = j
  · subst e
    by_cases hi : i < sl.length
    · rw [List.getElem?_set_self hi] at q
      cases q
      exact ⟨v, by rw [List.getElem?_set_self (by rw [← h.len]; exact hi)], r⟩
    · rw [List.getElem?_eq_none (by simpa using hi)] at q
      cases q
  · rw [List.getElem?_set_ne e] at q
    rw [List.getElem?_set_ne e]
    exact h.get j u q
/-- what is wanted of an expression's end: w: the world at its start -/
def Post (G : Glb) (W : WX) (w : Wd) (σ : L2.St) (out : R T) (Q : VK) : Prop := match out with
  | .ok t st' => ∀ v w' F, w'.st = st' → Ev w w' → w'.Ok G → w'.RO G v t F → Own w w' F → Q v w'.H
  | .exc c st' => ∀ w', w'.st = st' → Ev w w' → w'.Ok G → W (.ref (G.cls c)) none σ w'.H
  | .bad => False
def PostL (G : Glb) (W : WX) (w : Wd) (σ : L2.St) (out : R (List T)) (Q : List V → Hp → Prop) : Prop := match out with
  | .ok t st' => ∀ v w' F, w'.st = st' → Ev w w' → w'.Ok G → w'.ROs G v t F → Own w w' F → Q v w'.H
  | .exc c st' => ∀ w', w'.st = st' → Ev w w' → w'.Ok G → W (.ref (G.cls c)) none σ w'.H
  | .bad => False
def tEv (G : Glb) (W : WX) (ev : Slots → Store → R T) : TE := fun σ H Q => ∃ w sl, w.H = H ∧ w.Ok G ∧ SlotR G w σ sl ∧ Post G W w σ (ev sl w.st) Q
def tTv (G : Glb) (W : WX) (ev : Slots → Store → R T) : TT := fun σ H Q => ∃ w sl, w.H = H ∧ w.Ok G ∧ SlotR G w σ sl ∧ Post G W w σ (ev sl w.st) fun v H1 => ∃ b, v = .bl b ∧ Q b H1
def tLv (G : Glb) (W : WX) (ev : Slots → Store → R (List T)) : TA := fun σ H Q => ∃ w sl, w.H = H ∧ w.Ok G ∧ SlotR G w σ sl ∧ PostL G W w σ (ev sl w.st) Q
theorem PE.imp {X : Cx} {e : Expr} {t t' : TE} (h : PE X e t) (i : ∀ σ H Q, t' σ H Q → t σ H Q) : PE X e t' := ⟨fun pins s σ H Q I q => h.run pins s σ H Q I (i σ H Q q)⟩
theorem PT.imp {X : Cx} {e : Expr} {t t' : TT} (h : PT X e t) (i : ∀ σ H Q, t' σ H Q → t σ H Q) : PT X e t' := ⟨fun pins s σ H Q I q => h.run pins s σ H Q I (i σ H Q q)⟩
theorem PW.imp {X : Cx} {e : Expr} {t t' : TT} (h : PW X e t) (i : ∀ σ H Q, t' σ H Q → t σ H Q) : PW X e t' := ⟨fun wh pins s σ H Q I q => h.run wh pins s σ H Q I (i σ H Q q)⟩
theorem PA.imp {X : Cx} {e : List Expr} {t t' : TA} (h : PA X e t) (i : ∀ σ H Q, t' σ H Q → t σ H Q) : PA X e t' := ⟨fun pos pins s σ H Q I q => h.run pos pins s σ H Q I (i σ H Q q)⟩
theorem PS.imp {X : Cx} {e : Stmt} {t t' : TS} (h : PS X e t) (i : ∀ D σ H, t' D σ H → t D σ H) : PS X e t' := ⟨fun pins s σ H D I q => h.run pins s σ H D I (i D σ H q)⟩
theorem PSs.imp {X : Cx} {e : List Stmt} {t t' : TS} (h : PSs X e t) (i : ∀ D σ H, t' D σ H → t D σ H) : PSs X e t' := ⟨fun pins s σ H D I q => h.run pins s σ H D I (i D σ H q)⟩
section
variable {W : WX} {w w1 w2 : Wd} {σ : L2.St} {sl : Slots}
/-- an expression runs at w1 (since w), the rest f follows -/
theorem Post.bind {ev : Slots → Store → R T} {f : T → Store → R T} {Q Q1 : VK} (e1 : Ev w w1) (h : Post G W w σ ((ev sl w1.st).bind f) Q) (ok : w1.Ok G) (hs : SlotR G w1 σ sl)
    (k : ∀ x st2 v w2 F, Post G W w σ (f x st2) Q → w2.st = st2 → Ev w1 w2 → w2.Ok G → w2.RO G v x F → Own w1 w2 F → Q1 v w2.H) : tEv G W ev σ w1.H Q1 := by
  refine ⟨w1, sl, rfl, ok, hs, ?_⟩
  cases q : ev sl w1.st with
  | ok x st2 =>
    rw [q] at h
    exact fun v w2 F a b c d e => k x st2 v w2 F h a b c d e
  | exc c st2 =>
    rw [q] at h
    exact fun w2 a b c => h w2 a (e1.trans b) c
  | bad =>
    rw [q] at h
    exact h
theorem Post.bindT {ev : Slots → Store → R T} {f : T → Store → R T} {Q : VK} {Q1 : Bool → Hp → Prop} (e1 : Ev w w1) (h : Post G W w σ ((ev sl w1.st).bind f) Q) (ok : w1.Ok G) (hs : SlotR G w1 σ sl)
    (k : ∀ x st2 v w2 F, Post G W w σ (f x st2) Q → w2.st = st2 → Ev w1 w2 → w2.Ok G → w2.RO G v x F → Own w1 w2 F → ∃ b, v = .bl b ∧ Q1 b w2.H) : tTv G W ev σ w1.H Q1 := Post.bind e1 h ok hs k
theorem Post.bindL {ev : Slots → Store → R (List T)} {f : List T → Store → R T} {Q : VK} {Q1 : List V → Hp → Prop} (e1 : Ev w w1) (h : Post G W w σ ((ev sl w1.st).bind f) Q) (ok : w1.Ok G) (hs : SlotR G w1 σ sl)
    (k : ∀ x st2 v w2 F, Post G W w σ (f x st2) Q → w2.st = st2 → Ev w1 w2 → w2.Ok G → w2.ROs G v x F → Own w1 w2 F → Q1 v w2.H) : tLv G W ev σ w1.H Q1 := by
  refine ⟨w1, sl, rfl, ok, hs, ?_⟩
  cases q : ev sl w1.st with
  | ok x st2 =>
    rw [q] at h
    exact fun v w2 F a b c d e => k x st2 v w2 F h a b c d e
  | exc c st2 =>
    rw [q] at h
    exact fun w2 a b c => h w2 a (e1.trans b) c
  | bad =>
    rw [q] at h
    exact h
/-- an end without new things -/
theorem Post.fin {t : T} {st : Store} {Q : VK} {v : V} (h : Post G W w σ (.ok t st) Q) (e : w1.st = st) (ev : Ev w w1) (ok : w1.Ok G) (r : w1.R0 G v t) : Q v w1.H := h v w1 [] e ev ok (.of0 r) Own.nil
end
/-- a value by its tree: leaves -/
theorem RO_int {w : Wd} {v : V} {i : Int} {F : List Addr} (h : w.RO G v (.int i) F) : v = .int i ∧ F = [] := by
  cases h with | of0 h => cases h with | cl h => cases h; exact ⟨rfl, rfl⟩
theorem RO_str {w : Wd} {v : V} {i : Str} {F : List Addr} (h : w.RO G v (.str i) F) : v = .str i ∧ F = [] := by
  cases h with | of0 h => cases h with | cl h => cases h; exact ⟨rfl, rfl⟩
theorem RO_bl {w : Wd} {v : V} {i : Bool} {F : List Addr} (h : w.RO G v (.bl i) F) : v = .bl i ∧ F = [] := by
  cases h with | of0 h => cases h with | cl h => cases h; exact ⟨rfl, rfl⟩
theorem RO_non {w : Wd} {v : V} {F : List Addr} (h : w.RO G v .non F) : v = .non ∧ F = [] := by
  cases h with | of0 h => cases h with | cl h => cases h; exact ⟨rfl, rfl⟩
/-- a node, by its things -/
inductive NodeR (G : Glb) (w : Wd) (F : List Addr) : V → Tag → Ow → List T → Prop where
  | frz {a : Addr} {g : Tag} {vs : List V} {xs : List T} : w.S a ∨ (∀ H', AtF G H' a g vs) → AtF G w.H a g vs → w.RCs G vs xs → NodeR G w F (.ref a) g .fz xs
  | fzr {a : Addr} {vs : List V} {xs : List T} : AtF G w.H a .tup vs → w.R0s G vs xs → NodeR G w F (.ref a) .tup .fzr xs
  | clo {a : Addr} {g : Tag} {o : Ow} {vs : List V} {xs : List T} : (o = .own ∨ o = .lk) → AtM G w.H a g vs → w.RCs G vs xs → NodeR G w F (.ref a) g o xs
  | opn {a : Addr} {g : Tag} {o : Ow} {vs : List V} {xs : List T} : (o = .opn ∨ o = .lkx) → AtM G w.H a g vs → (∃ F', w.ROs G vs xs F' ∧ F'.Sublist F) → NodeR G w F (.ref a) g o xs
theorem Rep0s.take_r {H : Hp} {S : Addr → Prop} {r : List Addr} {k : Nat} {vs : List V} {ts : List T} (h : Rep0s G H S (r.take k) vs ts) : Rep0s G H S r vs ts :=
  h.mono (fun _ s => s) (fun _ _ _ q => q) fun i a q => by
    rw [List.getElem?_take] at q
    split at q
    · exact q
    · cases q
theorem node_of {w : Wd} (ok : w.Ok G) {v : V} {t : T} {F : List Addr} {g : Tag} {o : Ow} {xs : List T} (h : w.RO G v t F) (e : nodeOf w.st t = some (g, o, xs)) : NodeR G w F v g o xs := by
  cases t with
  | nd g' o' xs' =>
    simp only [nodeOf, Option.some.injEq, Prod.mk.injEq] at e
    obtain ⟨rfl, rfl, rfl⟩ := e
    cases h with
    | of0 h =>
      cases h with
      | cl h =>
        cases h with
        | nd s h c => exact .frz (.inl s) h c
        | ndK h c => exact .frz (.inr h) (h _) c
      | fzr s h c => exact .fzr h c
    | own h c => exact .clo (.inl rfl) h c
    | opn h c => exact .opn (.inl rfl) h ⟨_, c, List.sublist_cons_self _ _⟩
  | ref k =>
    simp only [nodeOf] at e
    split at e
    · rename_i g' o' xs' hs
      simp only [Option.some.injEq, Prod.mk.injEq] at e
      obtain ⟨rfl, rfl, rfl⟩ := e
      cases h with
      | of0 h =>
        cases h with
        | cl h => cases h
        | ref hk =>
          rename_i a
          have c : CellOk G w k a (.nd g' o' xs') := ok.cells k a _ hk hs
          cases o' with
          | fz => obtain ⟨s, vs, h, q⟩ := c; exact .frz (.inl s) h q
          | fzr => exact c.elim
          | own => obtain ⟨s, vs, h, q⟩ := c; exact .clo (.inl rfl) h q
          | lk => obtain ⟨s, vs, h, q⟩ := c; exact .clo (.inr rfl) h q
          | opn => obtain ⟨s, vs, h, q⟩ := c; exact .opn (.inl rfl) h ⟨[], q.take_r.toO, List.nil_sublist _⟩
          | lkx => obtain ⟨s, vs, h, q⟩ := c; exact .opn (.inr rfl) h ⟨[], q.take_r.toO, List.nil_sublist _⟩
    · cases e
  | _ => simp only [nodeOf] at e; cases e
/-- .. as it is read -/
theorem NodeR.read {w : Wd} {F : List Addr} {v : V} {g : Tag} {o : Ow} {xs : List T} (n : NodeR G w F v g o xs) : ∃ a vs F', v = .ref a ∧ AtF G w.H a g vs ∧ w.ROs G vs xs F' ∧ F'.Sublist F := by
  cases n with
  | frz s h c => exact ⟨_, _, [], rfl, h, c.toO, List.nil_sublist _⟩
  | fzr h c => exact ⟨_, _, [], rfl, h, c.toO, List.nil_sublist _⟩
  | clo _ h c => exact ⟨_, _, [], rfl, h.f, c.toO, List.nil_sublist _⟩
  | opn _ h c => obtain ⟨F', c, s⟩ := c; exact ⟨_, _, F', rfl, h.f, c, s⟩
theorem NodeR.clos {w : Wd} {F : List Addr} {v : V} {g : Tag} {o : Ow} {xs : List T} (n : NodeR G w F v g o xs) (e : closedOw o = true) : ∃ a vs, v = .ref a ∧ AtF G w.H a g vs ∧ w.RCs G vs xs := by
  cases n with
  | frz s h c => exact ⟨_, _, rfl, h, c⟩
  | fzr h c => cases e
  | clo _ h c => exact ⟨_, _, rfl, h.f, c⟩
  | opn q h c => rcases q with rfl | rfl <;> cases e
end PC
namespace PC
open PySem PySem.Spec PyProof.Rows L2
variable {G : Glb}
/-! ### dicts of trees -/
section
variable {H : Hp} {S : Addr → Prop} {r : List Addr}
theorem nd_tup {v : V} {xs : List T} (h : RepC G H S v (.nd .tup .fz xs)) : ∃ a vs, v = .ref a ∧ H a = some (.tup vs) ∧ RepCs G H S vs xs := by
  cases h with
  | nd s h c => exact ⟨_, _, rfl, h, c⟩
  | ndK h c => exact ⟨_, _, rfl, h _, c⟩
mutual
theorem vkey_c : ∀ {t : T} {v : V} {k : NestedKey}, RepC G H S v t → toK t = some k → VKey H v k
  | .non, _, _, h, e => by simp only [toK, Option.some.injEq] at e; subst e; cases h; exact .non
  | .bl _, _, _, h, e => by simp only [toK, Option.some.injEq] at e; subst e; cases h; exact .bl _
  | .int _, _, _, h, e => by simp only [toK, Option.some.injEq] at e; subst e; cases h; exact .int _
  | .str _, _, _, h, e => by simp only [toK, Option.some.injEq] at e; subst e; cases h; exact .str _
  | .exc _, _, _, _, e => by simp only [toK] at e; cases e
  | .ref _, _, _, _, e => by simp only [toK] at e; cases e
  | .nd .tup .fz xs, _, _, h, e => by
    simp only [toK] at e
    split at e
    · rename_i ks e1
      simp only [Option.some.injEq] at e
      subst e
      obtain ⟨a, vs, rfl, ha, c⟩ := nd_tup h
      exact .tup ha (vkeys_c c e1)
    · cases e
  | .nd .tup .fzr _, _, _, _, e => by simp only [toK] at e; cases e
  | .nd .tup .own _, _, _, _, e => by simp only [toK] at e; cases e
  | .nd .tup .opn _, _, _, _, e => by simp only [toK] at e; cases e
  | .nd .tup .lk _, _, _, _, e => by simp only [toK] at e; cases e
  | .nd .tup .lkx _, _, _, _, e => by simp only [toK] at e; cases e
  | .nd .lst _ _, _, _, _, e => by simp only [toK] at e; cases e
  | .nd .scr _ _, _, _, _, e => by simp only [toK] at e; cases e
  | .nd (.dic _) _ _, _, _, _, e => by simp only [toK] at e; cases e
  | .nd (.obj _ _) _ _, _, _, _, e => by simp only [toK] at e; cases e
theorem vkeys_c : ∀ {ts : List T} {vs : List V} {ks : List NestedKey}, RepCs G H S vs ts → toKs ts = some ks → VKeys H vs ks
  | [], _, _, .nil, e => by simp only [toKs, Option.some.injEq] at e; subst e; exact .nil
  | t :: ts, _, _, .cons h c, e => by
    simp only [toKs] at e
    split at e
    · rename_i k ks e1 e2
      simp only [Option.some.injEq] at e
      subst e
      exact .cons (vkey_c h e1) (vkeys_c c e2)
    · cases e
end
theorem krel_c {t : T} {v : V} {b : Bool} {k : NestedKey} (h : RepC G H S v t) (e : keyT t = some (b, k)) : KRel H b v k := by
  unfold keyT at e
  split at e
  · cases e; cases h; exact .int _
  · cases e; cases h; exact .str _
  · split at e
    · rename_i ks e1
      split at e
      · rename_i hd
        cases e
        obtain ⟨a, vs, rfl, ha, c⟩ := nd_tup h
        exact .tup (.tup ha (vkeys_c c e1)) hd
      · cases e
    · cases e
  · cases e
/-- a key is closed -/
theorem key_closed {t : T} {v : V} {F : List Addr} {q : Bool × NestedKey} (h : RepO G H S r v t F) (e : keyT t = some q) : RepC G H S v t := by
  cases h with
  | of0 h =>
    cases h with
    | cl h => exact h
    | ref _ => simp [keyT] at e
    | fzr _ _ _ => simp [keyT] at e
  | own _ _ => simp [keyT] at e
  | opn _ _ => simp [keyT] at e
theorem krels_o : ∀ {xs : List T} {vs : List V} {F : List Addr} {b : Bool} {ks : List NestedKey}, RepOs G H S r vs xs F → keysT b xs = some ks → KRels H b ks vs
  | [], _, _, _, _, .nil, e => by simp only [keysT, Option.some.injEq] at e; subst e; exact .nil
  | [_], _, _, _, _, _, e => by simp only [keysT] at e; cases e
  | x :: y :: xs, _, _, b, _, .cons h (.cons h2 c), e => by
    simp only [keysT] at e
    split at e
    · rename_i cc k ks e1 e2
      split at e
      · rename_i hb
        simp only [Option.some.injEq] at e
        subst e hb
        exact .cons (krel_c (key_closed h e1) e1) (krels_o c e2)
      · cases e
    · cases e
theorem getD_o {k : NestedKey} : ∀ {ks : List NestedKey} {vs : List V} {xs : List T} {F : List Addr} {t : T}, RepOs G H S r vs xs F → getD k ks xs = some t → ∃ v F', getD k ks vs = some v ∧ RepO G H S r v t F' ∧ F'.Sublist F
  | [], _, _, _, _, _, e => by simp [getD] at e
  | _ :: _, _, [], _, _, _, e => by simp [getD] at e
  | _ :: _, _, [_], _, _, _, e => by simp [getD] at e
  | j :: ks, _, x :: y :: xs, _, t, .cons h (.cons h2 c), e => by
    by_cases q : j = k
    · simp only [getD, if_pos q, Option.some.injEq] at e ⊢
      subst e
      exact ⟨_, _, rfl, h2, (List.sublist_append_left _ _).trans (List.sublist_append_right _ _)⟩
    · simp only [getD, if_neg q] at e ⊢
      obtain ⟨v, F', a, b, d⟩ := getD_o c e
      exact ⟨v, F', a, b, (d.trans (List.sublist_append_right _ _)).trans (List.sublist_append_right _ _)⟩
theorem getD_some {k : NestedKey} : ∀ {ks : List NestedKey} {vs : List V} {xs : List T} {F : List Addr}, RepOs G H S r vs xs F → (getD k ks vs).isSome = (getD k ks xs).isSome
  | [], _, _, _, _ => by simp [getD]
  | _ :: _, _, [], _, .nil => by simp [getD]
  | _ :: _, _, [_], _, .cons _ .nil => by simp [getD]
  | j :: ks, _, x :: y :: xs, _, .cons h (.cons h2 c) => by
    by_cases q : j = k
    · simp only [getD, if_pos q, Option.isSome_some]
    · simp only [getD, if_neg q]
      exact getD_some c
theorem putD_c {k : NestedKey} {u v : V} {a b : T} (h1 : RepC G H S u a) (h2 : RepC G H S v b) : ∀ {ks : List NestedKey} {vs : List V} {xs : List T}, RepCs G H S vs xs → RepCs G H S (putD k u v ks vs) (putD k a b ks xs)
  | [], _, _, _ => .cons h1 (.cons h2 .nil)
  | _ :: _, _, [], .nil => .nil
  | _ :: _, _, [_], .cons h .nil => .cons h .nil
  | j :: ks, _, x :: y :: xs, .cons h (.cons h3 c) => by
    by_cases q : j = k
    · simp only [putD, if_pos q]; exact .cons h (.cons h2 c)
    · simp only [putD, if_neg q]; exact .cons h (.cons h3 (putD_c h1 h2 c))
theorem dropD_c {k : NestedKey} : ∀ {ks : List NestedKey} {vs : List V} {xs : List T}, RepCs G H S vs xs → RepCs G H S (dropD k ks vs) (dropD k ks xs)
  | [], _, _, h => by simpa only [dropD] using h
  | _ :: _, _, [], .nil => .nil
  | _ :: _, _, [_], .cons h .nil => .cons h .nil
  | j :: ks, _, x :: y :: xs, .cons h (.cons h3 c) => by
    by_cases q : j = k
    · simp only [dropD, if_pos q]; exact c
    · simp only [dropD, if_neg q]; exact .cons h (.cons h3 (dropD_c c))
theorem keysD_c : ∀ {vs : List V} {xs : List T}, RepCs G H S vs xs → RepCs G H S (keysD vs) (keysD xs)
  | _, [], .nil => .nil
  | _, [_], .cons _ .nil => .nil
  | _, x :: y :: xs, .cons h (.cons h3 c) => by simp only [keysD]; exact .cons h (keysD_c c)
theorem keysD_o : ∀ {b : Bool} {ks : List NestedKey} {vs : List V} {xs : List T} {F : List Addr}, RepOs G H S r vs xs F → keysT b xs = some ks → RepCs G H S (keysD vs) (keysD xs)
  | _, _, _, [], _, .nil, _ => .nil
  | _, _, _, [_], _, _, e => by simp only [keysT] at e; cases e
  | b, _, _, x :: y :: xs, _, .cons h (.cons h3 c), e => by
    simp only [keysT] at e
    split at e
    · rename_i cc k ks e1 e2
      simp only [keysD]
      exact .cons (key_closed h e1) (keysD_o c e2)
    · cases e
theorem mrgD_c : ∀ {more : List NestedKey} {ks : List NestedKey} {vs : List V} {xs : List T} {ws : List V} {ys : List T}, RepCs G H S vs xs → RepCs G H S ws ys → RepCs G H S (mrgD ks vs more ws) (mrgD ks xs more ys)
  | [], _, _, _, _, _, h, _ => by simpa only [mrgD] using h
  | _ :: _, _, _, _, _, [], h, .nil => by simpa only [mrgD] using h
  | _ :: _, _, _, _, _, [_], h, .cons _ .nil => by simpa only [mrgD] using h
  | k :: more, ks, _, _, _, y :: z :: ys, h, .cons h1 (.cons h2 c) => by
    simp only [mrgD]
    exact mrgD_c (putD_c h1 h2 h) c
theorem getD_c {k : NestedKey} {ks : List NestedKey} {vs : List V} {xs : List T} {t : T} (h : RepCs G H S vs xs) (e : getD k ks xs = some t) : ∃ v, getD k ks vs = some v ∧ RepC G H S v t := by
  induction ks generalizing vs xs with
  | nil => simp [getD] at e
  | cons j ks ih =>
    cases h with
    | nil => simp [getD] at e
    | cons h1 h =>
      cases h with
      | nil => simp [getD] at e
      | cons h2 c =>
        by_cases q : j = k
        · simp only [getD, if_pos q, Option.some.injEq] at e ⊢
          subst e
          exact ⟨_, rfl, h2⟩
        · simp only [getD, if_neg q] at e ⊢
          exact ih c e
theorem pairs_c : ∀ {xs ys : List T} {vs : List V}, RepCs G H S vs xs → pairsT xs = some ys → ∃ ws, PairsAt H vs ws ∧ RepCs G H S ws ys
  | [], _, _, .nil, e => by simp only [pairsT, Option.some.injEq] at e; subst e; exact ⟨[], .nil, .nil⟩
  | x :: xs, ys, _, .cons h c, e => by
    unfold pairsT at e
    split at e
    · cases ‹_ :: _ = []›
    · rename_i a b xs' q
      cases q
      simp only [Option.map_eq_some_iff] at e
      obtain ⟨ys', e1, rfl⟩ := e
      obtain ⟨ws, p, cs⟩ := pairs_c c e1
      obtain ⟨p1, us, rfl, ha, cu⟩ := nd_tup h
      cases cu with
      | cons u1 cu =>
        cases cu with
        | cons u2 cu =>
          cases cu
          exact ⟨_, .cons ha p, .cons u1 (.cons u2 cs)⟩
    · cases e
end
end PC
namespace PC
open PySem PySem.Spec PyProof.Rows L2
/-! ### ranges with ends that are no words -/
theorem turn_long {P : Program} {w : World} {K : PySem.W.Frag} {tg : Expr} (it : Addr) (lo : Int) (n : Nat) : Turn P w K tg (Itr lo n) [it] it (fun i h => IsLongIter h it (lo + (i : Nat) * 1) ((n : Int) - (i : Nat)) 1) where
  mem := by simp
  obj := fun i h st b hb => by
    have e : b = it := by simpa using hb
    subst e
    exact ⟨_, st, fun v z => by
      have z' : Data.fields _ = Data.cell v := z
      cases z'⟩
  keep := fun i h h' st k => k it (by simp) _ st
  item := by
    intro X hP hw hK hc i pins s σ H E I hf st hg
    subst hP hw hK
    obtain ⟨f0, f1, f2, f3, f4, f5⟩ := hf it (by simp)
    have W := Walks.longrange (prog := X.prog) (w := X.w) (I.ok.hd hc) it lo 1 n
    refine W.item i s _ _ hg st fun v h' tk hv st' kk => ?_
    obtain ⟨t, rfl⟩ := hv
    have I1 : Inv X pins σ H { s with heap := h', toks := tk } := I.turned (fun b o hb e => kk b o (by simpa using hb) e) f0 f1 f3 f4 f5
    refine ⟨_, rfl, go_of (s := { s with heap := h', toks := tk }) (n := "longrange_iterator") st' rfl rfl (by decide) ⟨.int (lo + i), H, I1, ⟨t, ?_⟩, ⟨rfl, rfl⟩, st', fun b hb => (hf b hb).1⟩⟩
    rw [Int.mul_one]
  done := by
    intro X hP hw hK hc i pins s σ H E I hf st hg
    subst hP hw hK
    obtain ⟨f0, f1, f2, f3, f4, f5⟩ := hf it (by simp)
    exact wpAny_pyNext_long_end (I.ok.hd hc) st (by have : n ≤ i := hg; omega) fun h' eb => ⟨rfl, I.turned (t' := s.toks) (fun b o hb e => eb b o hb e) f0 f1 f3 f4 f5⟩
  self := fun _ _ _ _ _ st h => wpAny_pyIter_longiter st h
variable {X : Cx} {tg : Expr}
theorem range_itW {pins : List (Addr × Obj)} {σ : L2.St} {H : Hp} {s : Shared} {R : L2.It → Hp → Prop} {E : Value → Shared → Prop} {lo hi : Int} {t u v : Tok} {tk : Nat} (I : Inv X pins σ H s)
    (q : R (Itr lo (hi - lo).toNat) H) : wpAny (model X.prog X.w) X.A (pyIter (.ref s.heap.objs.size)) (PIE X pins σ tg R) E { s with heap := s.heap.push { cls := .type "range", data := .fields #[.int lo t, .int hi u, .int 1 v] }, toks := tk } := by
  have I1 : Inv X pins σ H { s with heap := s.heap.push { cls := .type "range", data := .fields #[.int lo t, .int hi u, .int 1 v] }, toks := tk } := I.kept fun b o e => Heap.get?_push_of_some _ e
  have e1 : lo + ((0 : Nat) : Int) * 1 = lo := by simp
  have e2 : (((hi - lo).toNat : Nat) : Int) - ((0 : Nat) : Int) = Builtin.Range.rangeSize lo hi 1 := by rw [rangeSize_one]; split <;> omega
  cases hs : Builtin.Range.small lo hi 1 with
  | true =>
    refine wpAny_pyIter_range (IsRange.new ..) hs ?_
    refine ⟨(s.heap.push { cls := .type "range", data := .fields #[.int lo t, .int hi u, .int 1 v] }).objs.size, [(s.heap.push { cls := .type "range", data := .fields #[.int lo t, .int hi u, .int 1 v] }).objs.size], _, _, H, rfl,
      I1.kept (t' := tk) fun b o e => Heap.get?_push_of_some _ e, turn_range _ lo (hi - lo).toNat, ?_, fun b hb => ?_, q⟩
    · show IsRangeIter _ _ (lo + ((0 : Nat) : Int) * 1) ((((hi - lo).toNat : Nat) : Int) - ((0 : Nat) : Int)) 1
      rw [e1, e2]
      exact Heap.get?_push_size _ rfl
    · have e : b = (s.heap.push { cls := .type "range", data := .fields #[.int lo t, .int hi u, .int 1 v] }).objs.size := by simpa using hb
      subst e
      exact I1.fpOk (Nat.le_refl _) (I1.hok.fresh (Nat.le_refl _))
  | false =>
    refine wpAny_pyIter_longrange (IsRange.new ..) hs ?_
    refine ⟨(s.heap.push { cls := .type "range", data := .fields #[.int lo t, .int hi u, .int 1 v] }).objs.size, [(s.heap.push { cls := .type "range", data := .fields #[.int lo t, .int hi u, .int 1 v] }).objs.size], _, _, H, rfl,
      I1.kept (t' := tk) fun b o e => Heap.get?_push_of_some _ e, turn_long _ lo (hi - lo).toNat, ?_, fun b hb => ?_, q⟩
    · show IsLongIter _ _ (lo + ((0 : Nat) : Int) * 1) ((((hi - lo).toNat : Nat) : Int) - ((0 : Nat) : Int)) 1
      rw [e1, e2]
      exact Heap.get?_push_size _ rfl
    · have e : b = (s.heap.push { cls := .type "range", data := .fields #[.int lo t, .int hi u, .int 1 v] }).objs.size := by simpa using hb
      subst e
      exact I1.fpOk (Nat.le_refl _) (I1.hok.fresh (Nat.le_refl _))
def iRng1W (ta : TA) : TI := fun σ H R => ta σ H fun vs H1 => ∃ j : Int, vs = [.int j] ∧ R (Itr 0 j.toNat) H1
def iRng2W (ta : TA) : TI := fun σ H R => ta σ H fun vs H1 => ∃ i j : Int, vs = [.int i, .int j] ∧ R (Itr i (j - i).toNat) H1
theorem pi_range1W {a : Expr} {ta : TA} {p pos : Pos} (hg : Gl X "range") (hm : X.mg "range" = none) (ha : PA X [a] ta) (hs : starEach [a] X.env = [(false, eval a X.env)] := by rfl) : PI X tg (.Call (.Name "range" p) [a] [] pos) (iRng1W ta) := by
  refine ⟨fun pins s σ H R I h => ?_⟩
  refine Call_ (ld_blt I hg hm boot_range (PyProof.Rows.callWith_type1 (thn (ha.run pos pins s σ H _ I h) fun us s1 ⟨vs, H1, I1, r1, q1⟩ => ?_) hs rfl))
  obtain ⟨j, e, q⟩ := q1
  subst e
  cases r1 with
  | cons r rr =>
    cases rr
    obtain ⟨t, rfl⟩ := r
    exact call_range_1 (range_itW I1 (by simpa using q))
theorem pi_range2W {a b : Expr} {ta : TA} {p pos : Pos} (hg : Gl X "range") (hm : X.mg "range" = none) (ha : PA X [a, b] ta) (hs : starEach [a, b] X.env = [(false, eval a X.env), (false, eval b X.env)] := by rfl) (hs2 : starEach [b] X.env = [(false, eval b X.env)] := by rfl) :
    PI X tg (.Call (.Name "range" p) [a, b] [] pos) (iRng2W ta) := by
  refine ⟨fun pins s σ H R I h => ?_⟩
  refine Call_ (ld_blt I hg hm boot_range (PyProof.Rows.callWith_type1 (thn (ha.run pos pins s σ H _ I h) fun us s1 ⟨vs, H1, I1, r1, q1⟩ => ?_) (by rw [hs, hs2]) (by rw [hs2]; rfl)))
  obtain ⟨i, j, e, q⟩ := q1
  subst e
  cases r1 with
  | cons r rr =>
    cases rr with
    | cons r' rr =>
      cases rr
      obtain ⟨t, rfl⟩ := r
      obtain ⟨t', rfl⟩ := r'
      exact call_range_2 (range_itW I1 q)
/-! ### + of lists that are read -/
def rCatL (K : PySem.W.Frag) : R2 := fun x y H Q => ∃ l b xs zs, x = .ref l ∧ y = .ref b ∧ SqL K H l xs ∧ SqL K H b zs ∧ xs.length + zs.length ≤ sizeLine ∧ ∀ p, H p = none → Q (.ref p) (upd H p (.lst (xs ++ zs)))
theorem op_catL : OpR X (binaryOp .Add) (rCatL X.K) := by
  intro pins s σ H x y v u Q I rx ry h
  obtain ⟨l, b, xs, zs, rfl, rfl, hH, hB, hz, q⟩ := h
  cases rx
  cases ry
  obtain ⟨its, r, ⟨⟨cls, dd, data, sl⟩, n, ho, hc, hd0, hd⟩, hl⟩ := I.list hH
  obtain ⟨its2, r2, ⟨⟨cls2, dd2, data2, sl2⟩, n2, ho2, hc2, hd20, hd2⟩, hl2⟩ := I.list hB
  simp only at hc hd hc2 hd2
  subst hc hd hc2 hd2
  have e1 := r.length
  have e2 := r2.length
  have ea : its.toArray ++ its2.toArray = (its ++ its2).toArray := by simp
  refine concat_meets ⟨_, ho, rfl⟩ ⟨_, ho2, rfl⟩ noFill_list_add seq_list_add PySem.F.slot_list_add PySem.F.entry_list_add (PySem.F.args_list_add_2 _ _) (list_addW l b its.toArray its2.toArray n n2 dd dd2 sl sl2 (by simp only [List.size_toArray]; omega)) ⟨ho, ho2, ?_⟩
  rw [ea]
  exact ⟨.ref _, _, I.lnew (t' := s.toks) (r.append r2) (by rw [List.length_append]; omega), rfl, q _ I.fresh⟩
end PC
namespace PC
open PySem PySem.Spec PyProof.Rows L2
variable {G : Glb} {X : Cx} {W : WX}
/-! ### new things -/
theorem Wd.Ok.noS {w : Wd} (ok : w.Ok G) {p : Addr} (hp : w.H p = none) : ¬ w.S p := fun s => by
  obtain ⟨o, q⟩ := ok.trk p s
  rw [hp] at q
  cases q
theorem Wd.Ok.noR {w : Wd} (ok : w.Ok G) {p : Addr} (hp : w.H p = none) : p ∉ w.r := fun s => by
  obtain ⟨o, q⟩ := ok.memTrk s
  rw [hp] at q
  cases q
theorem Own.cons {w0 w : Wd} {F : List Addr} {p : Addr} {o : HO} (ow : Own w0 w F) (e : Ev w0 w) (ok : w.Ok G) (t : ∀ a ∈ F, ∃ o, w.H a = some o) (hp : w.H p = none) : Own w0 (w.addO p o) (p :: F) := by
  refine ⟨List.nodup_cons.mpr ⟨fun h => ?_, ow.nd⟩, fun a ha => ?_, fun a ha => ?_, fun a ha => ?_⟩
  · obtain ⟨u, q⟩ := t p h
    rw [hp] at q
    cases q
  · rcases List.mem_cons.mp ha with h | h
    · rw [h]; exact e.non_ hp
    · exact ow.new a h
  · rcases List.mem_cons.mp ha with h | h
    · rw [h]; exact ok.noS hp
    · exact ow.ns a h
  · rcases List.mem_cons.mp ha with h | h
    · rw [h]; exact ok.noR hp
    · exact ow.nr a h
/-- a new node of closed things, of any -/
theorem Post.newOwn {w w1 : Wd} {σ : L2.St} {g : Tag} {vs : List V} {xs : List T} {st : Store} {Q : VK} {p : Addr} {o : HO} (h : Post G W w σ (.ok (.nd g .own xs) st) Q) (e : w1.st = st) (ev : Ev w w1) (ok : w1.Ok G)
    (hp : w1.H p = none) (ha : AtM G (upd w1.H p o) p g vs) (c : w1.RCs G vs xs) : Q (.ref p) (upd w1.H p o) :=
  h (.ref p) (w1.addO p o) [p] e (ev.trans (Ev.addO hp)) (ok.addO hp) (.own ha (c.mono (fun _ s => s) fun a u _ q => upd_old hp a u q)) (Own.nil.cons ev ok (by simp) hp)
theorem Post.newOpn {w w1 : Wd} {σ : L2.St} {g : Tag} {vs : List V} {xs : List T} {st : Store} {Q : VK} {p : Addr} {o : HO} {F : List Addr} (h : Post G W w σ (.ok (.nd g .opn xs) st) Q) (e : w1.st = st) (ev : Ev w w1) (ok : w1.Ok G)
    (hp : w1.H p = none) (ha : AtM G (upd w1.H p o) p g vs) (c : w1.ROs G vs xs F) (ow : Own w w1 F) : Q (.ref p) (upd w1.H p o) :=
  h (.ref p) (w1.addO p o) (p :: F) e (ev.trans (Ev.addO hp)) (ok.addO hp) (.opn ha (c.mono (fun _ s => s) (fun a u _ q => upd_old hp a u q) (fun _ _ q => q) fun a _ u q => upd_old hp a u q)) (ow.cons ev ok (RepOs.trk c) hp)
theorem Post.newFz {w w1 : Wd} {σ : L2.St} {g : Tag} {vs : List V} {xs : List T} {st : Store} {Q : VK} {p : Addr} {o : HO} (h : Post G W w σ (.ok (.nd g .fz xs) st) Q) (e : w1.st = st) (ev : Ev w w1) (ok : w1.Ok G)
    (hp : w1.H p = none) (ha : AtF G (upd w1.H p o) p g vs) (c : w1.RCs G vs xs) : Q (.ref p) (upd w1.H p o) :=
  h.fin (w1 := w1.addF p o) e (ev.trans (Ev.addF hp)) (ok.addF hp) (.cl (.nd (.inr rfl) ha (c.mono (fun _ s => .inl s) fun a u _ q => upd_old hp a u q)))
theorem copy_opn {o : Ow} (h : ¬ closedOw o = true) : copyOw o = .opn := by cases o <;> first | rfl | exact absurd rfl h
theorem copy_clo {o : Ow} (h : closedOw o = true) : copyOw o = .own := by cases o <;> first | rfl | cases h
theorem join_clo {o o' : Ow} (h : closedOw o = true) (h' : closedOw o' = true) : joinOw o o' = .own := by cases o <;> cases o' <;> first | rfl | exact absurd h (by decide) | exact absurd h' (by decide)
theorem join_opn {o o' : Ow} (h : ¬ (closedOw o = true ∧ closedOw o' = true)) : joinOw o o' = .opn := by cases o <;> cases o' <;> first | rfl | exact absurd ⟨rfl, rfl⟩ h
theorem lenOk_le {n : Nat} (h : lenOk n = true) : n ≤ sizeLine := of_decide_eq_true h
/-- a copy of (a part of) a list's things -/
theorem Post.copied {w w1 : Wd} {σ : L2.St} {v : V} {g : Tag} {o : Ow} {xs ys : List T} {st : Store} {Q : VK} {p : Addr} {F : List Addr} (f : ∀ {α : Type}, List α → List α) (hf : ∀ {α : Type} (l : List α), ∀ x ∈ f l, x ∈ l)
    (fc : ∀ {vs : List V} {ts : List T}, w1.RCs G vs ts → w1.RCs G (f vs) (f ts)) (fo : ∀ {vs : List V} {ts : List T} {F : List Addr}, w1.ROs G vs ts F → ∃ F', w1.ROs G (f vs) (f ts) F' ∧ F'.Sublist F)
    (h : Post G W w σ (.ok (.nd .lst (copyOw o) (f xs)) st) Q) (e : w1.st = st) (ev : Ev w w1) (ok : w1.Ok G)
    (n : NodeR G w1 F v g o xs) (ow : Own w w1 F) : ∃ a vs, v = .ref a ∧ AtF G w1.H a g vs ∧ vs.length = xs.length ∧ ∀ p, w1.H p = none → Q (.ref p) (upd w1.H p (.lst (f vs))) := by
  by_cases c : closedOw o = true
  · rw [copy_clo c] at h
    obtain ⟨a, vs, rfl, ha, cs⟩ := n.clos c
    exact ⟨a, vs, rfl, ha, cs.length, fun p hp => h.newOwn e ev ok hp (g := .lst) upd_same (fc cs)⟩
  · rw [copy_opn c] at h
    obtain ⟨a, vs, F', rfl, ha, cs, sb⟩ := n.read
    obtain ⟨F2, cs2, sb2⟩ := fo cs
    exact ⟨a, vs, rfl, ha, cs.length, fun p hp => h.newOpn e ev ok hp (g := .lst) upd_same cs2 (ow.sub (sb2.trans sb))⟩
/-- what a binary operator's rule asks is what the evaluator's end wants -/
def OpOk (G : Glb) (W : WX) (r : R2) (f : T → T → Store → R T) : Prop :=
  ∀ (w w2 : Wd) (σ : L2.St) (x y : T) (v1 v2 : V) (F1 F2 : List Addr) (Q : VK), Post G W w σ (f x y w2.st) Q → Ev w w2 → w2.Ok G → w2.RO G v1 x F1 → w2.RO G v2 y F2 → Own w w2 (F1 ++ F2) → r v1 v2 w2.H Q
theorem mulOk_ok {i j : Int} (h : mulOk i j = true) : IntMulOk i j := by
  unfold mulOk at h
  rw [Bool.or_eq_true, Bool.or_eq_true] at h
  rcases h with (h | h) | h
  · have h := of_decide_eq_true h
    exact CMul.ok (.inl (by omega))
  · have h := of_decide_eq_true h
    exact CMul.ok (.inr (by omega))
  · have h : i.natAbs.log2 + j.natAbs.log2 < 1000000 := of_decide_eq_true h
    exact CMulW.ok h
theorem op_mulA : OpR X (binaryOp .Mult) (rI (fun i j => mulOk i j = true) fun i j => .int (i * j)) := opI fun _ _ _ _ _ _ _ hc q => mul_int q (mulOk_ok hc)
theorem frT_of {w : Wd} (ok : w.Ok G) {v : V} {g : Tag} {x : T} {F : List Addr} {xs : List T} (r : w.RO G v x F) (q : nodeOf w.st x = some (g, .fz, xs)) : w.RC G v (.nd g .fz xs) := by
  have n := node_of ok r q
  generalize ho : Ow.fz = o at n
  cases n with
  | frz s h c => rcases s with s | s; exact .nd s h c; exact .ndK s c
  | fzr => cases ho
  | clo z => rcases z with z | z <;> (rw [← ho] at z; cases z)
  | opn z => rcases z with z | z <;> (rw [← ho] at z; cases z)
theorem catT_ok (hK : X.K = G.K) : OpOk G W (fun x y H Q => rCat x y H Q ∨ rCatA X.K x y H Q ∨ rCatL X.K x y H Q) catT := by
  intro w w2 σ x y v1 v2 F1 F2 Q h e ok r1 r2 ow
  unfold catT at h
  split at h
  · rename_i o xs o' ys q1 q2
    split at h
    · rename_i hl
      have n1 := node_of ok r1 q1
      have n2 := node_of ok r2 q2
      by_cases c : closedOw o = true ∧ closedOw o' = true
      · rw [join_clo c.1 c.2] at h
        obtain ⟨a, vs, rfl, ha, cs⟩ := n1.clos c.1
        obtain ⟨b, ws, rfl, hb, ds⟩ := n2.clos c.2
        exact .inl ⟨a, b, vs, ws, rfl, rfl, ha, hb, by rw [cs.length, ds.length]; exact lenOk_le hl, fun p hp => h.newOwn rfl e ok hp (g := .lst) upd_same (cs.append ds)⟩
      · rw [join_opn c] at h
        obtain ⟨a, vs, G1, rfl, ha, cs, s1⟩ := n1.read
        obtain ⟨b, ws, G2, rfl, hb, ds, s2⟩ := n2.read
        exact .inl ⟨a, b, vs, ws, rfl, rfl, ha, hb, by rw [cs.length, ds.length]; exact lenOk_le hl, fun p hp => h.newOpn rfl e ok hp (g := .lst) upd_same (cs.append ds) (ow.sub (s1.append s2))⟩
    · exact h.elim
  · rename_i xs ys q1 q2
    split at h
    · rename_i hl
      obtain ⟨a, vs, rfl, ha, cs⟩ := (node_of ok r1 q1).clos rfl
      obtain ⟨b, ws, rfl, hb, ds⟩ := (node_of ok r2 q2).clos rfl
      refine .inr <| .inl ⟨a, b, vs, ws, rfl, rfl, SqT.of ha, SqT.of hb, by rw [cs.length, ds.length]; exact lenOk_le hl, fun z => ?_, fun z z' => ?_, fun z z' p hp => ?_⟩
      · subst z
        have z2 : xs = [] := by cases cs; rfl
        subst z2
        rw [List.nil_append] at h
        exact h.fin rfl e ok (.cl (frT_of ok r2 q2))
      · subst z'
        have z2 : ys = [] := by cases ds; rfl
        subst z2
        rw [List.append_nil] at h
        exact h.fin rfl e ok (.cl (frT_of ok r1 q1))
      · exact h.newFz rfl e ok hp (g := .tup) upd_same (cs.append ds)
    · exact h.elim
  · rename_i o xs o' ys q1 q2
    split at h
    · rename_i hl
      simp only [Bool.and_eq_true] at hl
      obtain ⟨hl, c1, c2⟩ := hl
      obtain ⟨a, vs, rfl, ha, cs⟩ := (node_of ok r1 q1).clos c1
      obtain ⟨b, ws, rfl, hb, ds⟩ := (node_of ok r2 q2).clos c2
      have ha : SqL G.K w2.H a vs := ha
      exact .inr (.inr ⟨a, b, vs, ws, rfl, rfl, by rw [hK]; exact ha, SqL.of hb, by rw [cs.length, ds.length]; exact lenOk_le hl, fun p hp => h.newOwn rfl e ok hp (g := .lst) upd_same (cs.append ds)⟩)
    · exact h.elim
  · exact h.elim
def rAddA (K : PySem.W.Frag) : R2 := fun x y H Q => rI0 (fun i j => .int (i + j)) x y H Q ∨ (∃ i j, x = .str i ∧ y = .str j ∧ i.length + j.length ≤ sizeLine ∧ Q (.str (i ++ j)) H) ∨ rCat x y H Q ∨ rCatA K x y H Q ∨ rCatL K x y H Q
theorem op_addA : OpR X (binaryOp .Add) (rAddA X.K) := OpR.or op_add (OpR.or op_add_str (OpR.or op_cat (OpR.or op_catA op_catL)))
theorem addT_ok (hK : X.K = G.K) : OpOk G W (rAddA X.K) addT := by
  intro w w2 σ x y v1 v2 F1 F2 Q h e ok r1 r2 ow
  unfold addT at h
  split at h
  · obtain ⟨rfl, rfl⟩ := RO_int r1
    obtain ⟨rfl, rfl⟩ := RO_int r2
    exact .inl ⟨_, _, rfl, rfl, h.fin rfl e ok (.cl (.int _))⟩
  · split at h
    · rename_i hl
      obtain ⟨rfl, rfl⟩ := RO_str r1
      obtain ⟨rfl, rfl⟩ := RO_str r2
      exact .inr (.inl ⟨_, _, rfl, rfl, lenOk_le hl, h.fin rfl e ok (.cl (.str _))⟩)
    · exact h.elim
  · exact .inr (.inr (catT_ok hK w w2 σ _ _ v1 v2 F1 F2 Q h e ok r1 r2 ow))
theorem subT_ok : OpOk G W (rI0 fun i j => .int (i - j)) subT := by
  intro w w2 σ x y v1 v2 F1 F2 Q h e ok r1 r2 ow
  unfold subT at h
  split at h
  · obtain ⟨rfl, rfl⟩ := RO_int r1
    obtain ⟨rfl, rfl⟩ := RO_int r2
    exact ⟨_, _, rfl, rfl, h.fin rfl e ok (.cl (.int _))⟩
  · exact h.elim
def rMulA : R2 := fun x y H Q => rI (fun i j => mulOk i j = true) (fun i j => .int (i * j)) x y H Q ∨ rRep x y H Q
theorem op_mulB : OpR X (binaryOp .Mult) rMulA := OpR.or op_mulA op_rep
theorem mulT_ok : OpOk G W rMulA mulT := by
  intro w w2 σ x y v1 v2 F1 F2 Q h e ok r1 r2 ow
  unfold mulT at h
  split at h
  · split at h
    · rename_i hl
      obtain ⟨rfl, rfl⟩ := RO_int r1
      obtain ⟨rfl, rfl⟩ := RO_int r2
      exact .inl ⟨_, _, rfl, rfl, hl, h.fin rfl e ok (.cl (.int _))⟩
    · exact h.elim
  · rename_i k _
    obtain ⟨rfl, rfl⟩ := RO_int r2
    unfold repT at h
    split at h
    · rename_i o xs q1
      split at h
      · rename_i hl
        simp only [Bool.and_eq_true, decide_eq_true_eq] at hl
        obtain ⟨⟨⟨h1, h2⟩, h3⟩, c⟩ := hl
        obtain ⟨a, vs, rfl, ha, cs⟩ := (node_of ok r1 q1).clos c
        exact .inr ⟨a, k, vs, rfl, rfl, ha, h1, h2, by rw [cs.length]; exact lenOk_le h3, fun p hp => h.newOwn rfl e ok hp (g := .lst) upd_same (cs.rep _)⟩
      · exact h.elim
    · exact h.elim
  · exact h.elim
end PC
namespace PC
open PySem PySem.Spec PyProof.Rows L2 PySem.SeqAt
variable {G : Glb} {X : Cx} {W : WX}
/-! ### == of dicts -/
/-- of two values, by data -/
def EqDV (K : PySem.W.Frag) (H : Hp) (v u : V) (b : Bool) : Prop := ∃ d e, Dp K H v d ∧ Dp K H u e ∧ SeqAt.shaped d = true ∧ SeqAt.shaped e = true ∧ b = PyData.eqv d e
inductive HitsV (K : PySem.W.Frag) (H : Hp) (ls : List NestedKey) (us : List V) : List NestedKey → List V → Bool → Prop
  | nil : HitsV K H ls us [] [] true
  | miss {k : NestedKey} {ks : List NestedKey} {x v : V} {vs : List V} : getD k ls us = none → HitsV K H ls us (k :: ks) (x :: v :: vs) false
  | hit {k : NestedKey} {ks : List NestedKey} {x v u : V} {vs : List V} {a b : Bool} : getD k ls us = some u → EqDV K H v u a → HitsV K H ls us ks vs b → HitsV K H ls us (k :: ks) (x :: v :: vs) (a && b)
structure EqDD (K : PySem.W.Frag) (w : World) (H : Hp) (v u : V) (b : Bool) : Prop where
  ex : ∃ a c ks ls vs us r, v = .ref a ∧ u = .ref c ∧ DctAt w H a ks vs ∧ DctAt w H c ls us ∧ KRels H true ks vs ∧ KRels H true ls us ∧ (ks.length = ls.length → HitsV K H ls us ks vs r) ∧ b = (ks.length == ls.length && r)
theorem eqDV_at {pins : List (Addr × Obj)} {σ : L2.St} {H : Hp} {s : Shared} {A : Around} (I : Inv X pins σ H s) (hu : A.units + 64 < cLine) {v u : V} {x y : Value} {b : Bool} (h : EqDV X.K H v u b) (rv : RelV v x) (ru : RelV u y) : EqAt A s x y b := by
  obtain ⟨d, e, h1, h2, s1, s2, rfl⟩ := h
  obtain ⟨as, r1⟩ := Dp.reads I d v x h1 rv
  obtain ⟨bs, r2⟩ := Dp.reads I e u y h2 ru
  exact eqAt_reads d e A s x y as bs r1 r2 (canLay_of_shaped s1) (canLay_of_shaped s2) (room_of_shaped s1 hu)
theorem hits_D {pins : List (Addr × Obj)} {σ : L2.St} {H : Hp} {s : Shared} {A : Around} (I : Inv X pins σ H s) (hu : A.units + 64 < cLine) {ls : List NestedKey} {us : List V} {ys : List (NestedKey × Addr × Value)} (y : XR ys ls us) :
    ∀ {xs : List (NestedKey × Addr × Value)} {ks : List NestedKey} {vs : List V} {r : Bool}, XR xs ks vs → HitsV X.K H ls us ks vs r → HitsD X.prog X.w A s ys xs r
  | _, _, _, _, .nil, .nil => .nil
  | _, _, _, _, .cons (k := k) rv t, .miss g => by
    refine .miss (x := (_, _, _)) ?_
    have z := y.get k
    rw [g] at z
    have e := relo_none z
    simpa using e
  | _, _, _, _, .cons (k := k) rv t, .hit g e c => by
    have z := y.get k
    rw [g] at z
    obtain ⟨z, e1, rz⟩ := relo_some z
    obtain ⟨p, e2, rfl⟩ := Option.map_eq_some_iff.mp e1
    exact .hit (x := (_, _, _)) e2 ((eqDV_at I hu e rv rz).inModel X.prog X.w) (hits_D I hu y t c)
theorem eqDD_core {pins : List (Addr × Obj)} {σ : L2.St} {H : Hp} {s : Shared} {A : Around} (I : Inv X pins σ H s) (hu : A.units + 66 < cLine) {v u : V} {b : Bool} (h : EqDD X.K X.w H v u b) :
    ∃ a c xs ys r, v = .ref a ∧ u = .ref c ∧ (a == sysModules) = false ∧ (c == sysModules) = false ∧ s.heap.DictOfH (nestedKind X.prog X.w) a xs ∧ s.heap.DictOfH (nestedKind X.prog X.w) c ys ∧ (xs.length = ys.length → HitsD X.prog X.w A.in1 s ys xs r) ∧ b = (xs.length == ys.length && r) := by
  obtain ⟨a, c, ks, ls, vs, us, r, rfl, rfl, da, dc, ka, kc, hits, rfl⟩ := h.ex
  obtain ⟨hs, sz, nd, xs, x, hl, dd⟩ := dct_H (P := X.prog) I.hok da ka
  obtain ⟨hs', sz', nd', ys, y, hl', dd'⟩ := dct_H (P := X.prog) I.hok dc kc
  refine ⟨a, c, xs, ys, r, rfl, rfl, hs, hs', dd, dd', fun e => hits_D I ?_ y x (hits (by omega)), by rw [hl, hl']⟩
  rw [Around.in1_units]
  omega
def rEqDD (K : PySem.W.Frag) (w : World) (neg : Bool) : R2 := fun x y H Q => ∃ b, EqDD K w H x y b ∧ Q (.bl (notO neg b)) H
theorem op_eqDD (hu : X.A.units + 66 < cLine) : OpR X (compareOp .Eq) (rEqDD X.K X.w false) := by
  intro pins s σ H x y v u Q I rx ry h
  obtain ⟨b, e, q⟩ := h
  obtain ⟨a, c, xs, ys, r, rfl, rfl, ha, hc, da, dc, hits, rfl⟩ := eqDD_core I hu e
  obtain rfl : v = Value.ref a := rx
  obtain rfl : u = Value.ref c := ry
  exact eq_H (by omega) ha hc da dc hits ⟨.bl _, H, I, rfl, q⟩
theorem op_neDD (hu : X.A.units + 66 < cLine) : OpR X (compareOp .NotEq) (rEqDD X.K X.w true) := by
  intro pins s σ H x y v u Q I rx ry h
  obtain ⟨b, e, q⟩ := h
  obtain ⟨a, c, xs, ys, r, rfl, rfl, ha, hc, da, dc, hits, rfl⟩ := eqDD_core I hu e
  obtain rfl : v = Value.ref a := rx
  obtain rfl : u = Value.ref c := ry
  exact ne_H (by omega) ha hc da dc hits ⟨.bl _, H, I, rfl, q⟩
/-- things of tuples -/
def ElEq (K : PySem.W.Frag) (w : World) (H : Hp) (v u : V) (b : Bool) : Prop := EqDV K H v u b ∨ (b = true ∧ EqDD K w H v u true)
inductive TupEq (K : PySem.W.Frag) (w : World) (H : Hp) : List V → List V → List Bool → Prop
  | nil : TupEq K w H [] [] []
  | cons {v u : V} {vs us : List V} {b : Bool} {bs : List Bool} : ElEq K w H v u b → TupEq K w H vs us bs → TupEq K w H (v :: vs) (u :: us) (b :: bs)
theorem TupEq.len {K : PySem.W.Frag} {w : World} {H : Hp} {vs us : List V} {bs : List Bool} (h : TupEq K w H vs us bs) : vs.length = bs.length ∧ us.length = bs.length := by
  induction h with
  | nil => exact ⟨rfl, rfl⟩
  | cons _ _ ih => simp [ih]
theorem TupEq.get {K : PySem.W.Frag} {w : World} {H : Hp} {vs us : List V} {bs : List Bool} (h : TupEq K w H vs us bs) : ∀ {j : Nat} {v u : V}, vs[j]? = some v → us[j]? = some u → ElEq K w H v u (bs.getD j false) := by
  induction h with
  | nil => intro j v u e; simp at e
  | cons e _ ih =>
    intro j v u h1 h2
    cases j with
    | zero =>
      simp only [List.getElem?_cons_zero, Option.some.injEq] at h1 h2
      subst h1 h2
      exact e
    | succ j => exact ih (by simpa using h1) (by simpa using h2)
theorem range_all_get : ∀ bs : List Bool, (List.range bs.length).all (fun j => bs.getD j false) = bs.all id
  | [] => rfl
  | b :: bs => by
    have ih := range_all_get bs
    rw [List.length_cons, List.range_succ_eq_map, List.all_cons, List.all_map, List.all_cons, ← ih]
    rfl
def rEqTup (K : PySem.W.Frag) (w : World) : R2 := fun x y H Q => ∃ a c vs us bs, x = .ref a ∧ y = .ref c ∧ H a = some (.tup vs) ∧ H c = some (.tup us) ∧ TupEq K w H vs us bs ∧ Q (.bl (bs.all id)) H
theorem op_eqTup (hu : X.A.units + 68 < cLine) : OpR X (compareOp .Eq) (rEqTup X.K X.w) := by
  intro pins s σ H x y v u Q I rx ry h
  obtain ⟨a, c, vs, us, bs, rfl, rfl, ha, hc, t, q⟩ := h
  obtain rfl : v = Value.ref a := rx
  obtain rfl : u = Value.ref c := ry
  obtain ⟨_, its, rv, o, h1, h2, n, h3⟩ := (show ObjOk X.prog X.w H s.heap a (.tup vs) from I.hok a _ ha)
  obtain ⟨_, jts, rw', o', k1, k2, m, k3⟩ := (show ObjOk X.prog X.w H s.heap c (.tup us) from I.hok c _ hc)
  have l1 := rv.length
  have l2 := rw'.length
  obtain ⟨t1, t2⟩ := t.len
  have hin : X.A.in1.units = X.A.units + 1 := Around.in1_units _
  refine rcIn_tuples (e := fun j => bs.getD j false) (items := its.toArray) (items2 := jts.toArray) ⟨o, h1, h2, n, h3⟩ ⟨o', k1, k2, m, k3⟩ (by omega) (fun j g1 g2 => ?_) ?_
  · have g1' : j < vs.length := by simpa [l1] using g1
    have g2' : j < us.length := by simpa [l2] using g2
    have e1 : vs[j]? = some vs[j] := List.getElem?_eq_getElem g1'
    have e2 : us[j]? = some us[j] := List.getElem?_eq_getElem g2'
    obtain ⟨x1, q1, r1⟩ := rv.get e1
    obtain ⟨y1, q2, r2⟩ := rw'.get e2
    have z1 : its.toArray[j] = x1 := by
      have := (List.getElem?_eq_some_iff.mp q1).2
      simpa using this
    have z2 : jts.toArray[j] = y1 := by
      have := (List.getElem?_eq_some_iff.mp q2).2
      simpa using this
    rw [z1, z2]
    rcases t.get e1 e2 with d | ⟨hb, d⟩
    · exact (eqDV_at I (by omega) d r1 r2).inModel _ _
    · obtain ⟨p, p', xs, ys, r, ep, ep', s1, s2, da, dc, hits, hr⟩ := eqDD_core (A := X.A.in1) I (by omega) d
      rw [ep] at r1
      rw [ep'] at r2
      obtain rfl : x1 = Value.ref p := r1
      obtain rfl : y1 = Value.ref p' := r2
      rw [hb]
      have hr := hr.symm
      simp only [Bool.and_eq_true, beq_iff_eq] at hr
      have hh := hits hr.1
      rw [hr.2] at hh
      exact eqIn_H (by omega) s1 s2 da dc hr.1 hh
  · have hl : its.toArray.size = bs.length := by simp [← l1, t1]
    have hl2 : jts.toArray.size = bs.length := by simp [← l2, t2]
    rw [hl, hl2, Nat.min_self, range_all_get]
    simp only [beq_self_eq_true, Bool.and_true]
    exact ⟨.bl _, H, I, rfl, q⟩
end PC
namespace PC
open PySem PySem.Spec PyProof.Rows L2
variable {G : Glb} {X : Cx} {W : WX}
theorem divT_ok : OpOk G W (rI CDivW fun i j => .int (i / j)) divT := by
  intro w w2 σ x y v1 v2 F1 F2 Q h e ok r1 r2 ow
  unfold divT at h
  split at h
  · split at h
    · rename_i hl
      simp only [Bool.and_eq_true, decide_eq_true_eq] at hl
      obtain ⟨rfl, rfl⟩ := RO_int r1
      obtain ⟨rfl, rfl⟩ := RO_int r2
      exact ⟨_, _, rfl, rfl, hl, h.fin rfl e ok (.cl (.int _))⟩
    · exact h.elim
  · exact h.elim
theorem modT_ok : OpOk G W (rI (fun _ j => 0 < j) fun i j => .int (i % j)) modT := by
  intro w w2 σ x y v1 v2 F1 F2 Q h e ok r1 r2 ow
  unfold modT at h
  split at h
  · split at h
    · rename_i hl
      obtain ⟨rfl, rfl⟩ := RO_int r1
      obtain ⟨rfl, rfl⟩ := RO_int r2
      exact ⟨_, _, rfl, rfl, hl, h.fin rfl e ok (.cl (.int _))⟩
    · exact h.elim
  · exact h.elim
theorem powT_ok : OpOk G W (rI CPow fun i j => .int (i ^ j.toNat)) powT := by
  intro w w2 σ x y v1 v2 F1 F2 Q h e ok r1 r2 ow
  unfold powT at h
  split at h
  · split at h
    · rename_i hl
      simp only [Bool.and_eq_true, decide_eq_true_eq] at hl
      obtain ⟨rfl, rfl⟩ := RO_int r1
      obtain ⟨rfl, rfl⟩ := RO_int r2
      exact ⟨_, _, rfl, rfl, ⟨hl.1.1, hl.1.2, hl.2⟩, h.fin rfl e ok (.cl (.int _))⟩
    · exact h.elim
  · exact h.elim
theorem shlT_ok : OpOk G W (fun x y H Q => ∃ k : Nat, x = .int 1 ∧ y = .int (k : Int) ∧ k ≤ 134217727 ∧ Q (.int (2 ^ k)) H) shlT := by
  intro w w2 σ x y v1 v2 F1 F2 Q h e ok r1 r2 ow
  unfold shlT at h
  split at h
  · split at h
    · rename_i j hl
      simp only [Bool.and_eq_true, decide_eq_true_eq] at hl
      obtain ⟨rfl, rfl⟩ := RO_int r1
      obtain ⟨rfl, rfl⟩ := RO_int r2
      obtain ⟨k, rfl⟩ := Int.eq_ofNat_of_zero_le hl.1
      exact ⟨k, rfl, rfl, by omega, h.fin rfl e ok (.cl (.int _))⟩
    · exact h.elim
  · exact h.elim
theorem shrT_ok : OpOk G W (fun x y H Q => ∃ (i : Int) (k : Nat), x = .int i ∧ y = .int (k : Int) ∧ Q (.int (i / 2 ^ k)) H) shrT := by
  intro w w2 σ x y v1 v2 F1 F2 Q h e ok r1 r2 ow
  unfold shrT at h
  split at h
  · split at h
    · rename_i i j hl
      obtain ⟨rfl, rfl⟩ := RO_int r1
      obtain ⟨rfl, rfl⟩ := RO_int r2
      obtain ⟨k, rfl⟩ := Int.eq_ofNat_of_zero_le hl
      exact ⟨i, k, rfl, rfl, h.fin rfl e ok (.cl (.int _))⟩
    · exact h.elim
  · exact h.elim
theorem andT_ok : OpOk G W (fun x y H Q => ∃ n : Nat, x = .int (n : Int) ∧ y = .int 1 ∧ Q (.int ((n % 2 : Nat) : Int)) H) andT := by
  intro w w2 σ x y v1 v2 F1 F2 Q h e ok r1 r2 ow
  unfold andT at h
  split at h
  · split at h
    · rename_i i hl
      obtain ⟨rfl, rfl⟩ := RO_int r1
      obtain ⟨rfl, rfl⟩ := RO_int r2
      obtain ⟨k, rfl⟩ := Int.eq_ofNat_of_zero_le hl
      exact ⟨k, rfl, rfl, h.fin rfl e ok (.cl (.int _))⟩
    · exact h.elim
  · exact h.elim
theorem binop_ok (hK : X.K = G.K) (op : Operator) : ∃ r, OpR X (binaryOp op) r ∧ OpOk G W r (binop op) := by
  have no : ∀ {r : R2}, OpOk G W r fun _ _ _ => .bad := fun {r} w w2 σ x y v1 v2 F1 F2 Q h e ok r1 r2 ow => h.elim
  cases op with
  | Add => exact ⟨_, op_addA, addT_ok hK⟩
  | Sub => exact ⟨_, op_sub, subT_ok⟩
  | Mult => exact ⟨_, op_mulB, mulT_ok⟩
  | FloorDiv => exact ⟨_, op_fdivW, divT_ok⟩
  | Mod => exact ⟨_, op_mod, modT_ok⟩
  | Pow => exact ⟨_, op_pow, powT_ok⟩
  | LShift => exact ⟨_, op_oneShl, shlT_ok⟩
  | RShift => exact ⟨_, op_shrN, shrT_ok⟩
  | BitAnd => exact ⟨_, op_odd, andT_ok⟩
  | _ => exact ⟨fun _ _ _ _ => False, fun _ _ _ _ _ _ _ _ _ _ _ _ h => h.elim, no⟩
/-! ### data -/
mutual
theorem dp_c {H : Hp} {S : Addr → Prop} {look : Nat → Option PyData} : ∀ {t : T} {v : V} {d : PyData}, RepC G H S v t → toD look t = some d → Dp G.K H v d
  | _, _, _, .non, e => by simp only [toD, Option.some.injEq] at e; subst e; exact .non
  | _, _, _, .bl b, e => by simp only [toD, Option.some.injEq] at e; subst e; exact .bl b
  | _, _, _, .int i, e => by simp only [toD, Option.some.injEq] at e; subst e; exact .int i
  | _, _, _, .str x, e => by simp only [toD, Option.some.injEq] at e; subst e; exact .str x
  | .nd g _ xs, _, d, .nd s h c, e => dp_n g h e fun ds e' => dp_cs c e'
  | .nd g _ xs, _, d, .ndK h c, e => dp_n g (h H) e fun ds e' => dp_cs c e'
theorem dp_n {H : Hp} {look : Nat → Option PyData} {a : Addr} {o : Ow} {vs : List V} {xs : List T} {d : PyData} : ∀ (g : Tag), AtF G H a g vs → toD look (.nd g o xs) = some d → (∀ ds, toDs look xs = some ds → DpAll G.K H vs ds) → Dp G.K H (.ref a) d
  | .tup, h, e, k => by
    simp only [toD, Option.map_eq_some_iff] at e
    obtain ⟨ds, e1, rfl⟩ := e
    exact .tup (SqT.of h) (k ds e1)
  | .lst, h, e, k => by
    simp only [toD, Option.map_eq_some_iff] at e
    obtain ⟨ds, e1, rfl⟩ := e
    exact .lst (SqL.of h) (k ds e1)
  | .scr, h, e, k => by simp only [toD] at e; cases e
  | .dic _, h, e, k => by simp only [toD] at e; cases e
  | .obj _ _, h, e, k => by simp only [toD] at e; cases e
theorem dp_cs {H : Hp} {S : Addr → Prop} {look : Nat → Option PyData} : ∀ {ts : List T} {vs : List V} {ds : List PyData}, RepCs G H S vs ts → toDs look ts = some ds → DpAll G.K H vs ds
  | _, _, _, .nil, e => by simp only [toDs, Option.some.injEq] at e; subst e; exact .nil
  | _, _, ds, .cons h c, e => by
    simp only [toDs] at e
    split at e
    · rename_i d ds' e1 e2
      simp only [Option.some.injEq] at e
      subst e
      exact .cons (dp_c h e1) (dp_cs c e2)
    · cases e
end
mutual
theorem dp_0 {H : Hp} {S : Addr → Prop} {r : List Addr} {look : Nat → Option PyData} (hl : ∀ k a d, r[k]? = some a → look k = some d → Dp G.K H (.ref a) d) :
    ∀ {t : T} {v : V} {d : PyData}, Rep0 G H S r v t → toD look t = some d → Dp G.K H v d
  | _, _, _, .cl h, e => dp_c h e
  | .ref k, _, d, .ref hk, e => by simp only [toD] at e; exact hl k _ d hk e
  | .nd _ _ xs, _, d, .fzr s h c, e => dp_n .tup h e fun ds e' => dp_0s hl c e'
theorem dp_0s {H : Hp} {S : Addr → Prop} {r : List Addr} {look : Nat → Option PyData} (hl : ∀ k a d, r[k]? = some a → look k = some d → Dp G.K H (.ref a) d) :
    ∀ {ts : List T} {vs : List V} {ds : List PyData}, Rep0s G H S r vs ts → toDs look ts = some ds → DpAll G.K H vs ds
  | _, _, _, .nil, e => by simp only [toDs, Option.some.injEq] at e; subst e; exact .nil
  | _, _, ds, .cons h c, e => by
    simp only [toDs] at e
    split at e
    · rename_i d ds' e1 e2
      simp only [Option.some.injEq] at e
      subst e
      exact .cons (dp_0 hl h e1) (dp_0s hl c e2)
    · cases e
end
mutual
theorem dp_o {H : Hp} {S : Addr → Prop} {r : List Addr} {look : Nat → Option PyData} (hl : ∀ k a d, r[k]? = some a → look k = some d → Dp G.K H (.ref a) d) :
    ∀ {t : T} {v : V} {d : PyData} {F : List Addr}, RepO G H S r v t F → toD look t = some d → Dp G.K H v d
  | _, _, _, _, .of0 h, e => dp_0 hl h e
  | .nd g _ xs, _, d, _, .own h c, e => dp_n g h.f e fun ds e' => dp_cs c e'
  | .nd g _ xs, _, d, _, .opn h c, e => dp_n g h.f e fun ds e' => dp_os hl c e'
theorem dp_os {H : Hp} {S : Addr → Prop} {r : List Addr} {look : Nat → Option PyData} (hl : ∀ k a d, r[k]? = some a → look k = some d → Dp G.K H (.ref a) d) :
    ∀ {ts : List T} {vs : List V} {ds : List PyData} {F : List Addr}, RepOs G H S r vs ts F → toDs look ts = some ds → DpAll G.K H vs ds
  | _, _, _, _, .nil, e => by simp only [toDs, Option.some.injEq] at e; subst e; exact .nil
  | _, _, ds, _, .cons h c, e => by
    simp only [toDs] at e
    split at e
    · rename_i d ds' e1 e2
      simp only [Option.some.injEq] at e
      subst e
      exact .cons (dp_o hl h e1) (dp_os hl c e2)
    · cases e
end
theorem dp_look {w : Wd} (ok : w.Ok G) : ∀ (n k : Nat) (a : Addr) (d : PyData), w.r[k]? = some a → lookN w.st n k = some d → Dp G.K w.H (.ref a) d
  | 0, _, _, _, _, e => by simp only [lookN] at e; cases e
  | n + 1, k, a, d, hk, e => by
    simp only [lookN] at e
    split at e
    · rename_i t ht
      have c := ok.cells k a t hk ht
      cases t with
      | nd g o xs =>
        cases o with
        | fz => obtain ⟨s, vs, h, q⟩ := c; exact dp_n g h e fun ds e' => dp_cs q e'
        | fzr => exact c.elim
        | own => obtain ⟨s, vs, h, q⟩ := c; exact dp_n g h.f e fun ds e' => dp_cs q e'
        | lk => obtain ⟨s, vs, h, q⟩ := c; exact dp_n g h.f e fun ds e' => dp_cs q e'
        | opn => obtain ⟨s, vs, h, q⟩ := c; exact dp_n g h.f e fun ds e' => dp_0s (dp_look ok n) q.take_r e'
        | lkx => obtain ⟨s, vs, h, q⟩ := c; exact dp_n g h.f e fun ds e' => dp_0s (dp_look ok n) q.take_r e'
      | _ => exact c.elim
    · cases e
theorem dp_of {w : Wd} (ok : w.Ok G) {t : T} {v : V} {d : PyData} {F : List Addr} (h : w.RO G v t F) (e : dataOf w.st t = some d) : Dp G.K w.H v d := dp_o (dp_look ok 4) h e
/-! ### comparisons -/
theorem RO_flat {w : Wd} {v : V} {t : T} {F : List Addr} (h : w.RO G v t F) (f : flatT t = true) : w.RC G v t := by
  cases h with
  | of0 h =>
    cases h with
    | cl h => exact h
    | ref => cases f
    | fzr => cases f
  | own => cases f
  | opn => cases f
theorem rc_flat {w : Wd} {v : V} {t : T} (h : w.RC G v t) (f : flatT t = true) : flatV v = true := by
  cases h <;> first | rfl | cases f
theorem rc_eqF {w : Wd} {v u : V} {t s : T} (h : w.RC G v t) (h' : w.RC G u s) (f : flatT t = true) (f' : flatT s = true) : eqV v u = eqF t s := by
  cases h <;> cases h' <;> first | rfl | cases f | cases f'
theorem scal_ok {w : Wd} {v u : V} {t s : T} {b : Bool} {F F' : List Addr} (h : w.RO G v t F) (h' : w.RO G u s F') (e : scalT t s = some b) : scal v u = true ∧ decide (v = u) = b := by
  have f : flatT t = true := by cases t <;> first | rfl | (cases s <;> cases e)
  have f' : flatT s = true := by cases t <;> cases s <;> first | rfl | cases e
  have c := RO_flat h f
  have c' := RO_flat h' f'
  cases c <;> cases c' <;> simp only [scalT, Option.some.injEq, reduceCtorEq] at e <;> first
    | (subst e; exact ⟨rfl, by simp⟩)
    | cases f
    | cases f'
def rEqA (K : PySem.W.Frag) (neg : Bool) : R2 := fun x y H Q => (scal x y = true ∧ Q (.bl (notO neg (decide (x = y)))) H) ∨ (∃ d e, Dp K H x d ∧ Dp K H y e ∧ SeqAt.shaped d = true ∧ SeqAt.shaped e = true ∧ Q (.bl (notO neg (PyData.eqv d e))) H)
theorem op_eqA (hu : X.A.units + 64 < cLine) : OpR X (compareOp .Eq) (rEqA X.K false) := OpR.or op_eq (op_eqD hu)
theorem op_neA (hu : X.A.units + 64 < cLine) : OpR X (compareOp .NotEq) (rEqA X.K true) := OpR.or op_ne (op_neD hu)
theorem eqDt_c {H : Hp} {S : Addr → Prop} {v u : V} {t s : T} {b : Bool} (h : RepC G H S v t) (h' : RepC G H S u s) (e : eqDt t s = some b) : EqDV G.K H v u b := by
  unfold eqDt at e
  split at e
  · rename_i d d' q1 q2
    split at e
    · rename_i hs
      simp only [Bool.and_eq_true] at hs
      cases e
      exact ⟨d, d', dp_c h q1, dp_c h' q2, hs.1, hs.2, rfl⟩
    · cases e
  · cases e
theorem getD_none {H : Hp} {S : Addr → Prop} {k : NestedKey} {ks : List NestedKey} {vs : List V} {xs : List T} (h : RepCs G H S vs xs) (e : getD k ks xs = none) : getD k ks vs = none := by
  have q := getD_some (k := k) (ks := ks) (h.toO (r := []))
  rw [e] at q
  cases z : getD k ks vs with
  | none => rfl
  | some v => rw [z] at q; cases q
theorem hits_c {H : Hp} {S : Addr → Prop} {ls : List NestedKey} {us : List V} {ys : List T} (y : RepCs G H S us ys) : ∀ {ks : List NestedKey} {vs : List V} {xs : List T} {b : Bool}, RepCs G H S vs xs → xs.length = 2 * ks.length → eqHits ls ys ks xs = some b → HitsV G.K H ls us ks vs b
  | [], _, [], _, .nil, _, e => by simp only [eqHits, Option.some.injEq] at e; subst e; exact .nil
  | [], _, _ :: _, _, _, l, _ => by simp at l
  | _ :: _, _, [], _, _, l, _ => by simp at l
  | _ :: _, _, [_], _, _, l, _ => by simp only [List.length_cons, List.length_nil] at l; omega
  | k :: ks, _, x :: v :: xs, b, .cons h1 (.cons h2 c), l, e => by
    simp only [eqHits] at e
    split at e
    · rename_i q
      cases e
      exact .miss (getD_none y q)
    · rename_i u q
      split at e
      · rename_i a b' q1 q2
        cases e
        obtain ⟨w, z1, z2⟩ := getD_c y q
        exact .hit z1 (eqDt_c h2 z2 q1) (hits_c y c (by simp only [List.length_cons] at l; omega) q2)
      · cases e
theorem keysT_len {b : Bool} : ∀ {xs : List T} {ks : List NestedKey}, keysT b xs = some ks → xs.length = 2 * ks.length
  | [], _, e => by simp only [keysT, Option.some.injEq] at e; subst e; rfl
  | [_], _, e => by simp only [keysT] at e; cases e
  | x :: y :: xs, _, e => by
    simp only [keysT] at e
    split at e
    · rename_i c k ks e1 e2
      split at e
      · simp only [Option.some.injEq] at e
        subst e
        have := keysT_len e2
        simp only [List.length_cons]
        omega
      · cases e
    · cases e
theorem eqDic_c {H : Hp} {S : Addr → Prop} {a c : Addr} {ks ls : List NestedKey} {vs us : List V} {xs ys : List T} {b : Bool} (da : DctAt G.w H a ks vs) (dc : DctAt G.w H c ls us) (x : RepCs G H S vs xs) (y : RepCs G H S us ys) (e : eqDic ks ls xs ys = some b) : EqDD G.K G.w H (.ref a) (.ref c) b := by
  unfold eqDic at e
  split at e
  · rename_i hk
    have k1 := krels_o (r := []) x.toO hk.1
    have k2 := krels_o (r := []) y.toO hk.2
    split at e
    · rename_i hl
      exact ⟨a, c, ks, ls, vs, us, b, rfl, rfl, da, dc, k1, k2, fun _ => hits_c y x (keysT_len hk.1) e, by simp [hl]⟩
    · rename_i hl
      cases e
      exact ⟨a, c, ks, ls, vs, us, false, rfl, rfl, da, dc, k1, k2, fun z => absurd z hl, by simp⟩
  · cases e
theorem nd_dic {H : Hp} {S : Addr → Prop} {v : V} {ks : List NestedKey} {xs : List T} (h : RepC G H S v (.nd (.dic ks) .fz xs)) : ∃ a vs, v = .ref a ∧ DctAt G.w H a ks vs ∧ RepCs G H S vs xs := by
  cases h with
  | nd s h c => exact ⟨_, _, rfl, h, c⟩
  | ndK h c => exact ⟨_, _, rfl, h _, c⟩
theorem eqEl_c {H : Hp} {S : Addr → Prop} {v u : V} {t s : T} {b : Bool} (h : RepC G H S v t) (h' : RepC G H S u s) (e : eqEl t s = some b) : ElEq G.K G.w H v u b := by
  unfold eqEl at e
  split at e
  · split at e
    · rename_i q
      cases e
      obtain ⟨a, vs, rfl, da, x⟩ := nd_dic h
      obtain ⟨c, us, rfl, dc, y⟩ := nd_dic h'
      exact .inr ⟨rfl, eqDic_c da dc x y q.2⟩
    · cases e
  · exact .inl (eqDt_c h h' e)
theorem eqTup_c {H : Hp} {S : Addr → Prop} : ∀ {ts ss : List T} {vs us : List V} {b : Bool}, RepCs G H S vs ts → RepCs G H S us ss → eqTup ts ss = some b → ∃ bs, TupEq G.K G.w H vs us bs ∧ b = bs.all id
  | [], [], _, _, _, .nil, .nil, e => by simp only [eqTup, Option.some.injEq] at e; subst e; exact ⟨[], .nil, rfl⟩
  | t :: ts, s :: ss, _, _, b, .cons h c, .cons h' c', e => by
    simp only [eqTup] at e
    split at e
    · rename_i a b' q1 q2
      cases e
      obtain ⟨bs, z1, z2⟩ := eqTup_c c c' q2
      exact ⟨a :: bs, .cons (eqEl_c h h' q1) z1, by rw [z2]; rfl⟩
    · cases e
  | [], _ :: _, _, _, _, _, _, e => by simp only [eqTup] at e; cases e
  | _ :: _, [], _, _, _, _, _, e => by simp only [eqTup] at e; cases e
def rEqB (K : PySem.W.Frag) (w : World) (neg : Bool) : R2 := fun x y H Q => rEqA K neg x y H Q ∨ rEqDD K w neg x y H Q ∨ (neg = false ∧ rEqTup K w x y H Q)
theorem op_eqB (hu : X.A.units + 68 < cLine) : OpR X (compareOp .Eq) (rEqB X.K X.w false) := by
  intro pins s σ H x y v u Q I rx ry h
  rcases h with h | h | ⟨_, h⟩
  · exact op_eqA (by omega) pins s σ H x y v u Q I rx ry h
  · exact op_eqDD (by omega) pins s σ H x y v u Q I rx ry h
  · exact op_eqTup hu pins s σ H x y v u Q I rx ry h
theorem op_neB (hu : X.A.units + 68 < cLine) : OpR X (compareOp .NotEq) (rEqB X.K X.w true) := by
  intro pins s σ H x y v u Q I rx ry h
  rcases h with h | h | ⟨z, _⟩
  · exact op_neA (by omega) pins s σ H x y v u Q I rx ry h
  · exact op_neDD (by omega) pins s σ H x y v u Q I rx ry h
  · cases z
theorem eqR_ok (hK : X.K = G.K) (hw : X.w = G.w) (neg : Bool) : OpOk G W (rEqB X.K X.w neg) (eqR neg) := by
  intro w w2 σ x y v1 v2 F1 F2 Q h e ok r1 r2 ow
  rw [hK, hw]
  unfold eqR at h
  split at h
  · rename_i b q
    unfold eqT at q
    split at q
    · rename_i b' q'
      simp only [Option.some.injEq] at q
      subst q
      obtain ⟨s1, s2⟩ := scal_ok r1 r2 q'
      exact .inl (.inl ⟨s1, by rw [s2]; exact h.fin rfl e ok (.cl (.bl _))⟩)
    · split at q
      · rename_i d d' q1 q2
        split at q
        · rename_i hs
          simp only [Option.some.injEq] at q
          subst q
          simp only [Bool.and_eq_true] at hs
          exact .inl (.inr ⟨d, d', dp_of ok r1 q1, dp_of ok r2 q2, hs.1, hs.2, h.fin rfl e ok (.cl (.bl _))⟩)
        · cases q
      · unfold eqN at q
        split at q
        · rename_i n1 n2 ks o xs ls o' ys e1 e2
          split at q
          · rename_i hc
            simp only [Bool.and_eq_true] at hc
            obtain ⟨a, vs, rfl, da, x⟩ := (node_of ok r1 e1).clos hc.1
            obtain ⟨c, us, rfl, dc, y⟩ := (node_of ok r2 e2).clos hc.2
            exact .inr (.inl ⟨b, eqDic_c da dc x y q, h.fin rfl e ok (.cl (.bl _))⟩)
          · cases q
        · cases q
  · split at h
    · exact h.elim
    · rename_i hn
      split at h
      · rename_i b q
        unfold eqTN at q
        split at q
        · rename_i n1 n2 xs ys e1 e2
          obtain ⟨a, vs, rfl, da, x⟩ := (node_of ok r1 e1).clos rfl
          obtain ⟨c, us, rfl, dc, y⟩ := (node_of ok r2 e2).clos rfl
          obtain ⟨bs, z, rfl⟩ := eqTup_c x y q
          exact .inr (.inr ⟨by simpa using hn, a, c, vs, us, bs, rfl, rfl, da, dc, z, h.fin rfl e ok (.cl (.bl _))⟩)
        · cases q
      · exact h.elim
theorem RO_isnon {w : Wd} {v : V} {t : T} {F : List Addr} (h : w.RO G v t F) : decide (v = .non) = isNon t := by
  cases h with
  | of0 h =>
    cases h with
    | cl h => cases h <;> first | rfl | exact decide_eq_false (by intro z; cases z)
    | ref => exact decide_eq_false (by intro z; cases z)
    | fzr => exact decide_eq_false (by intro z; cases z)
  | own => exact decide_eq_false (by intro z; cases z)
  | opn => exact decide_eq_false (by intro z; cases z)
def rIsA (neg : Bool) : R2 := fun x y H Q => (y = .non ∧ Q (.bl (notO neg (decide (x = .non)))) H) ∨ ∃ a b, x = .bl a ∧ y = .bl b ∧ Q (.bl (notO neg (decide (a = b)))) H
theorem isT_ok (neg : Bool) : OpOk G W (rIsA neg) (isT neg) := by
  intro w w2 σ x y v1 v2 F1 F2 Q h e ok r1 r2 ow
  unfold isT at h
  split at h
  · obtain ⟨rfl, rfl⟩ := RO_non r2
    exact .inl ⟨rfl, by rw [RO_isnon r1]; exact h.fin rfl e ok (.cl (.bl _))⟩
  · obtain ⟨rfl, rfl⟩ := RO_bl r1
    obtain ⟨rfl, rfl⟩ := RO_bl r2
    exact .inr ⟨_, _, rfl, rfl, h.fin rfl e ok (.cl (.bl _))⟩
  · exact h.elim
theorem ints_ok {p : Int → Int → Bool} {f : T → T → Store → R T} (he : ∀ x y st, (∃ i j, x = .int i ∧ y = .int j ∧ f x y st = .ok (.bl (p i j)) st) ∨ f x y st = .bad) : OpOk G W (rI0 fun i j => .bl (p i j)) f := by
  intro w w2 σ x y v1 v2 F1 F2 Q h e ok r1 r2 ow
  rcases he x y w2.st with ⟨i, j, rfl, rfl, q⟩ | q
  · rw [q] at h
    obtain ⟨rfl, rfl⟩ := RO_int r1
    obtain ⟨rfl, rfl⟩ := RO_int r2
    exact ⟨i, j, rfl, rfl, h.fin rfl e ok (.cl (.bl _))⟩
  · rw [q] at h
    exact h.elim
def rInA (K : PySem.W.Frag) (neg : Bool) : R2 := fun x y H Q => (∃ i j, x = .str i ∧ y = .str j ∧ Q (.bl (notO neg (!(Builtin.Str.occurrences j i 0 j.length 1).isEmpty))) H) ∨ rIn K neg x y H Q ∨
  ∃ d ds, Dp K H x d ∧ Dp K H y (.list ds) ∧ SeqAt.shaped d = true ∧ SeqAt.shaped (.list ds) = true ∧ Q (.bl (notO neg (ds.any fun z => PyData.eqv z d))) H
theorem op_inA (hu : X.A.units + 65 < cLine) : OpR X (compareOp .In) (rInA X.K false) := OpR.or op_in_str (OpR.or op_in_seq (op_inD hu))
theorem op_notInA (hu : X.A.units + 65 < cLine) : OpR X (compareOp .NotIn) (rInA X.K true) := OpR.or op_notin_str (OpR.or op_notIn_seq (op_notInD hu))
def rInB (K : PySem.W.Frag) (w : World) (neg : Bool) : R2 := fun x y H Q => rInA K neg x y H Q ∨ rInN w neg x y H Q
theorem op_inB (hu : X.A.units + 65 < cLine) : OpR X (compareOp .In) (rInB X.K X.w false) := OpR.or (op_inA hu) (op_inN (by omega))
theorem op_notInB (hu : X.A.units + 65 < cLine) : OpR X (compareOp .NotIn) (rInB X.K X.w true) := OpR.or (op_notInA hu) (op_notInN (by omega))
/-- what a dict is asked -/
theorem ask_of {w : Wd} (ok : w.Ok G) {v u : V} {t s : T} {F F' : List Addr} {ks : List NestedKey} {o : Ow} {xs : List T} {k : NestedKey} {q : Option T} (r1 : w.RO G v t F) (r2 : w.RO G u s F') (e : nodeOf w.st s = some (.dic ks, o, xs)) (a : askD ks xs t = some (k, q)) :
    ∃ p vs b F2, u = .ref p ∧ DctAt G.w w.H p ks vs ∧ KRels w.H b ks vs ∧ KRel w.H b v k ∧ q = getD k ks xs ∧ w.ROs G vs xs F2 ∧ F2.Sublist F' := by
  obtain ⟨p, vs, F2, rfl, ha, cs, sb⟩ := (node_of ok r2 e).read
  unfold askD at a
  split at a
  · rename_i b k' e1
    split at a
    · rename_i e2
      cases a
      exact ⟨p, vs, b, F2, rfl, ha, krels_o cs e2, krel_c (key_closed r1 e1) e1, rfl, cs, sb⟩
    · cases a
  · cases a
theorem inV_ok {w : Wd} {v : V} {x : T} (h : w.RC G v x) (f : flatT x = true) : ∀ {vs : List V} {xs : List T} {F : List Addr}, w.ROs G vs xs F → xs.all flatT = true → inV v vs = xs.any (fun y => eqF y x) ∧ vs.all flatV = true
  | _, _, _, .nil, _ => ⟨rfl, rfl⟩
  | _, _, _, .cons h1 c, f1 => by
    simp only [List.all_cons, Bool.and_eq_true] at f1
    obtain ⟨i1, i2⟩ := inV_ok h f c f1.2
    have c1 := RO_flat h1 f1.1
    refine ⟨?_, ?_⟩
    · show (eqV _ v || inV v _) = _
      rw [i1, rc_eqF c1 h f1.1 f]
      rfl
    · rw [List.all_cons, rc_flat c1 f1.1, i2]
      rfl
theorem ifneg (neg b : Bool) : (if neg = true then !b else b) = notO neg b := rfl
theorem inR_ok (hK : X.K = G.K) (hw : X.w = G.w) (neg : Bool) : OpOk G W (rInB X.K X.w neg) (inR neg) := by
  intro w w2 σ x y v1 v2 F1 F2 Q h e ok r1 r2 ow
  unfold inR at h
  split at h
  · rename_i b q
    unfold inT at q
    split at q
    · simp only [Option.some.injEq] at q
      subst q
      obtain ⟨rfl, rfl⟩ := RO_str r1
      obtain ⟨rfl, rfl⟩ := RO_str r2
      exact .inl (.inl ⟨_, _, rfl, rfl, h.fin rfl e ok (.cl (.bl _))⟩)
    · split at q
      · rename_i o ys q1
        obtain ⟨a, vs, F', rfl, ha, cs, sb⟩ := (node_of ok r2 q1).read
        split at q
        · rename_i hf
          simp only [Bool.and_eq_true] at hf
          simp only [Option.some.injEq] at q
          subst q
          obtain ⟨i1, i2⟩ := inV_ok (RO_flat r1 hf.1) hf.1 cs hf.2
          refine .inl (.inr (.inl ⟨a, vs, rfl, .inl (SqL.of ha), rc_flat (RO_flat r1 hf.1) hf.1, i2, ?_⟩))
          rw [i1, ifneg]
          exact h.fin rfl e ok (.cl (.bl _))
        · split at q
          · rename_i d ds q2 q3
            split at q
            · rename_i hs
              simp only [Bool.and_eq_true] at hs
              simp only [Option.some.injEq] at q
              subst q
              exact .inl (.inr (.inr ⟨d, ds, by rw [hK]; exact dp_of ok r1 q2, by rw [hK]; exact dp_of ok r2 q3, hs.1, hs.2, h.fin rfl e ok (.cl (.bl _))⟩))
            · cases q
          · cases q
      · rename_i o ys q1
        obtain ⟨a, vs, F', rfl, ha, cs, sb⟩ := (node_of ok r2 q1).read
        split at q
        · rename_i hf
          simp only [Bool.and_eq_true] at hf
          simp only [Option.some.injEq] at q
          subst q
          obtain ⟨i1, i2⟩ := inV_ok (RO_flat r1 hf.1) hf.1 cs hf.2
          refine .inl (.inr (.inl ⟨a, vs, rfl, .inr (SqT.of ha), rc_flat (RO_flat r1 hf.1) hf.1, i2, ?_⟩))
          rw [i1, ifneg]
          exact h.fin rfl e ok (.cl (.bl _))
        · cases q
      · rename_i ks o ys q1
        simp only [Option.map_eq_some_iff] at q
        obtain ⟨⟨k, z⟩, q2, rfl⟩ := q
        obtain ⟨p, vs, b, F2, rfl, d, kr, ky, rfl, cs, sb⟩ := ask_of ok r1 r2 q1 q2
        refine .inr ⟨p, ks, vs, b, k, rfl, by rw [hw]; exact d, kr, ky, ?_⟩
        rw [getD_some cs]
        exact h.fin rfl e ok (.cl (.bl _))
      · cases q
  · exact h.elim
theorem cmpop_ok (hK : X.K = G.K) (hw : X.w = G.w) (hu : X.A.units + 68 < cLine) (op : CmpOp) : ∃ r, OpR X (compareOp op) r ∧ OpOk G W r (cmpop op) := by
  cases op with
  | Eq => exact ⟨_, op_eqB hu, eqR_ok hK hw false⟩
  | NotEq => exact ⟨_, op_neB hu, eqR_ok hK hw true⟩
  | Lt => exact ⟨_, op_lt, ints_ok fun x y st => by cases x <;> cases y <;> first | exact .inl ⟨_, _, rfl, rfl, rfl⟩ | exact .inr rfl⟩
  | LtE => exact ⟨_, op_le, ints_ok fun x y st => by cases x <;> cases y <;> first | exact .inl ⟨_, _, rfl, rfl, rfl⟩ | exact .inr rfl⟩
  | Gt => exact ⟨_, op_gt, ints_ok fun x y st => by cases x <;> cases y <;> first | exact .inl ⟨_, _, rfl, rfl, rfl⟩ | exact .inr rfl⟩
  | GtE => exact ⟨_, op_ge, ints_ok fun x y st => by cases x <;> cases y <;> first | exact .inl ⟨_, _, rfl, rfl, rfl⟩ | exact .inr rfl⟩
  | Is => exact ⟨_, OpR.or op_isN op_is_bl, isT_ok false⟩
  | IsNot => exact ⟨_, OpR.or op_notN op_isnot_bl, isT_ok true⟩
  | In => exact ⟨_, op_inB (by omega), inR_ok hK hw false⟩
  | NotIn => exact ⟨_, op_notInB (by omega), inR_ok hK hw true⟩
end PC
/-! max of two data. -/
namespace PC
open PySem PySem.Spec PySem.W PyProof.Rows
section
variable {prog : Program} {w : World} {A : Around} {E : Value → Shared → Prop} {s : Shared}
theorem max_twoD {u1 u2 : Value} {d1 d2 : PyData} {as : List Addr} {Q : Value → Shared → Prop} (hh : A.handled = none) (rd : ReadsAll s.heap [u1, u2] [d1, d2] as) (al : AlikeAll [d1, d2]) (room : A.units + 1 + PyData.depthAll [d1, d2] < cLine)
    (h : ∀ h' tk, (∀ b o, s.heap.get? b = some o → h'.get? b = some o) → Q (if dataLt d1 d2 = true then u2 else u1) { s with heap := h', toks := tk }) : wpAny (model prog w) A (call (.builtin "max") [u1, u2]) Q E s := by
  have nm : (toString "max" ++ toString ".loop" : String) = "max.loop" := by decide
  refine call_function_tree F.kind_max F.plain_max F.entry_max (F.args_max2 _ _) ?_
  show wpAny _ A.in1 (Builtin.Builtins.bindParams "max" ["key", "default"] 0 ⟨[], []⟩ >>= _) _ _ s
  refine wpAny_bind (wpAny_of_eq (show Builtin.Builtins.bindParams "max" ["key", "default"] 0 ⟨[], []⟩ = pure [none, none] from rfl) ?_)
  show wpAny _ A.in1 (newTuple [u1, u2] >>= _) _ _ s
  refine wpAny_bind (wpAny_newObj_type ?_)
  have old1 : ∀ b o, s.heap.get? b = some o → (s.heap.push { cls := .type "tuple", data := .seq #[u1, u2] }).get? b = some o := fun b o g => Heap.get?_push_of_some _ g
  have tup : ({ s with heap := s.heap.push { cls := .type "tuple", data := .seq #[u1, u2] } } : Shared).heap.IsTuple s.heap.objs.size #[u1, u2] := ⟨_, Heap.get?_push_size _ rfl, rfl, _, rfl⟩
  have rd1 : ReadsAll (s.heap.push { cls := .type "tuple", data := .seq #[u1, u2] }) [u1, u2] [d1, d2] as := ReadsAll.keeps old1 rd
  refine wpAny_bind (iter_tupleW (A := A.in1) hh tup fun s2 e2 W st hfp hw hk => ?_)
  refine wpAny_bind (wpAny_newObj_type ?_)
  rw [nm]
  refine wpAny_pure ⟨plainId_quiet F.plain_max_loop _, codeAny_max_loop_firstH W _ hw _ (cmpIn_gt (A := A.in1) (s := { s with heap := s.heap.push { cls := .type "tuple", data := .seq #[u1, u2] } }) (vs := #[u1, u2]) rd1 al (by show A.units + 1 + _ < _; exact room)) s2.heap.objs.size (fun m => Nat.lt_irrefl _ (hfp _ m)) (fresh_in hk) _ (by simp) (fun b o g => Heap.get?_push_of_some _ (hk b o g)) (W.frame 0 s2 _ s2.toks st (Nat.le_refl _) fun b _ o g => Heap.get?_push_of_some _ g) (Heap.get?_push_size _ rfl) fun v s3 hv mv => ?_⟩
  have m2 := Moved.drop_new (tk := s2.toks) mv (Nat.le_refl _)
  obtain ⟨h3, tk, rfl, k3⟩ := moved_old e2 rfl m2
  have hb : (if dataLt d1 d2 = true then u2 else u1) = v := by
    have e : argBest (fun i j => dataLt ([d1, d2].getD j PyData.none) ([d1, d2].getD i PyData.none)) (#[u1, u2].size - 1) = if dataLt d1 d2 = true then 1 else 0 := rfl
    rw [e] at hv
    by_cases q : dataLt d1 d2 = true
    · rw [if_pos q] at hv ⊢
      exact Option.some.inj hv
    · rw [if_neg q] at hv ⊢
      exact Option.some.inj hv
  rw [← hb]
  exact h h3 tk fun b o g => k3 b o (old1 b o g)
end
end PC
/-! Promises of defs that are run where no guard stands: so that repr's answers are known. -/
namespace PC
open PySem PySem.Spec PyProof.Rows L2
structure RoomG (k : Nat) (A : Around) : Prop where
  rm : Room k A
  gu : A.guards = some []
theorem RoomG.un {k : Nat} {A : Around} (q : RoomG k A) : A.units + 16 * k + 200 < cLine := q.rm.un
theorem RoomG.mono {i k : Nat} {A : Around} (q : RoomG k A) (le : i ≤ k) : RoomG i A := ⟨q.rm.mono le, q.gu⟩
theorem RoomG.deeper {k : Nat} {A : Around} (q : RoomG (k + 1) A) (env : Env) : RoomG k (A.deeper env) := ⟨q.rm.deeper env, q.gu⟩
theorem make_gu {A : Around} {C : Addr} {us : List Value} : (A.under (.builtin "type.__call__" ⟨.ref C :: us, []⟩)).guards = A.guards := by
  cases h : A.guards <;> first | (simp [Around.under, Code.guards, Code.isGuard, guardIds, pushGuards, h]; done) | (simp [Around.under, pushGuards, h, Code.guards]; decide)
theorem RoomG.make {k : Nat} {A : Around} (q : RoomG (k + 1) A) (C : Addr) (us : List Value) : RoomG k (A.under (.builtin "type.__call__" ⟨.ref C :: us, []⟩)) := ⟨q.rm.make C us [], make_gu.trans q.gu⟩
/-- what a def does, run where no guard stands -/
structure FnG (Pr : Program) (wd : World) (KK : PySem.W.Frag) (mg : Str → Option Value) (base : Heap) (CX : CXT) (k : Nat) (fa : Addr) (fd : FuncData) (ps : List Str) (sp : Sp) : Prop where
  len : ∀ vs H Q E, sp vs H Q E → vs.length = ps.length
  run : ∀ (Ar : Around) (out : List Env) (sh : Shared) (H : Hp) (ag : Args) (us : List Value) (vs : List V) (Q : VK) (E : XK), RoomG k Ar → Env0 Pr wd KK mg base Ar out sh H → BindsTo sh fd ag (ps.zip us) → Vals vs us → sp vs H Q E →
    codeAny (model Pr wd) Ar (.call (.ref fa) ag) (CR CX out Pr wd H sh Q E) sh
section
variable {X : Cx} {CX : CXT} {k : Nat} {fa : Addr} {fd : FuncData} {ps : List Str} {sp : Sp} {Ex : L2.St → XK} {x : Str} {p pos : Pos} {e : Expr} {es : List Expr} {t : TA}
theorem run_fnG {pins : List (Addr × Obj)} {σ : L2.St} {H : Hp} {s : Shared} {Q : VK} {us : List Value} {vs : List V} (Fp : FnG X.prog X.w X.K X.mg X.base CX k fa fd ps sp) (rm : RoomG k X.A) (bd : Binds X.K fd ps []) (px : PassesAt CX X σ (Ex σ))
    (I : Inv X pins σ H s) (rv : Vals vs us) (hq : sp vs H Q (Ex σ)) : wpAny (model X.prog X.w) X.A (call (.ref fa) us) (EP X pins σ Q) X.xe s := by
  have n1 : vs.length = ps.length := Fp.len _ _ _ _ hq
  have n2 : (us ++ ([] : List Value)).length = ps.length := by rw [List.append_nil, ← rv.length, n1]
  have bn := bd s us I.kIn n2
  rw [List.append_nil] at bn
  refine wpAny_call (codeAny_mono (Fp.run X.A X.stack s H ⟨us, []⟩ us vs Q (Ex σ) rm I.env0 bn rv hq) fun out s2 z => ?_)
  match out, z with
  | .error e, z => exact px pins H s e s2 I z
  | .ok (.ret _), z => exact I.after z
  | .ok .next, z => exact False.elim z
  | .ok .brk, z => exact False.elim z
  | .ok .cont, z => exact False.elim z
theorem pe_callG (Fp : FnG X.prog X.w X.K X.mg X.base CX k fa fd ps sp) (rm : RoomG k X.A) (hg : Gl X x) (hm : X.mg x = some (.ref fa)) (hk : PySem.W.keepIn X.K (.ref fa) = true) (bd : Binds X.K fd ps []) (px : ∀ σ, PassesAt CX X σ (Ex σ))
    (ha : PA X (e :: es) t) (hdb : (x == ("__debug__" : Str)) = false) (he : starEach (e :: es) X.env = (false, eval e X.env) :: starEach es X.env) (hpl : (backTo pos (starEach es X.env)).any (·.1) = false) :
    PE X (.Call (.Name x p) (e :: es) [] pos) (fun σ H Q => t σ H fun vs H1 => sp vs H1 Q (Ex σ)) := by
  constructor
  intro pins s σ H Q I h
  refine wpAny_Call_Name_kw (ld_glob I hg hm ?_ hdb)
  refine PySem.W.callWith_K (h₀ := X.base) I.ok.mod.kin hk (thn (ha.run pos pins s σ H _ I h) ?_) he hpl
  rintro us s1 ⟨vs, H1, I1, rv, q⟩
  exact ⟨I1.kIn, run_fnG Fp rm bd (px σ) I1 rv q⟩
end
/-- a def by its body -/
theorem fnG_of {CX : CXT} {Pr : Program} {wd : World} {KK : PySem.W.Frag} {mg : Str → Option Value} {base : Heap} {k : Nat} {nm qual : Str} {params : Arguments} {body : List Stmt} {scope : Scope} {N ps : List Str} {fa : Addr} {fd : FuncData} {sp : Sp}
    (D : FunD KK nm qual params body scope [] [] fa fd) (S : FnScope N ps scope) (len : ∀ vs H Q E, sp vs H Q E → vs.length = ps.length)
    (hb : ∀ (cv : Value) (Ar : Around) (out : List Env) (sh : Shared) (H : Hp) (vs : List V) (Q : VK) (E : XK), RoomG k (Ar.deeper (envOfC qual scope sh.heap.objs.size fa cv)) → sp vs H Q E →
      ∃ t, PSs (cxOf CX Pr wd KK mg base N qual scope fa cv Ar out sh H E) body t ∧ t { nx := fun _ H' => Q .non H', rt := Q } (L2.start N vs) H) : FnG Pr wd KK mg base CX (k + 1) fa fd ps sp := by
  obtain ⟨oc, od, dv, kv, doc, pm, an, cv, ct, sl, rfl, look, inK, _, _⟩ := D.ex
  refine ⟨len, fun Ar out sh H ag us vs Q E rm e0 bn rv hsp => ?_⟩
  have nl := len _ _ _ _ hsp
  have kin : KK.In sh.heap := e0.mod.kin.keeps fun b o q => (e0.bs b o q).1
  have lim : sh.heap.NoLimit := e0.mod.nolimit.keeps fun b o q => (e0.bs b o q).1
  have kinds : ∀ z ∈ ps.zip us, scope.names.lookup z.1 = some .local ∨ (scope.names.lookup z.1 = some .cell ∧ ((cellsFrom (sh.heap.objs.size + 1) scope.names []).lookup z.1).isSome = true) := by
    rintro ⟨a, b⟩ hz
    rcases S.par a (List.of_mem_zip hz).1 with q | q
    · exact Or.inl q
    · exact Or.inr ⟨q, PySem.W.cellsFrom_some _ _ _ (Or.inl q)⟩
  refine codeAny_call_function rm.rm.depth (kin _ _ look) rfl S.co S.gen rfl (PySem.W.codeRec_of kin inK) (bn _ _ _ _ ?_)
  refine wpAny_newFunctionEnv_cells S.kind kinds ?_
  rintro env rfl s1 st
  refine ⟨lim.keeps st.toInCall.keep, codeAny_func ?_⟩
  obtain ⟨t, pt, hq⟩ := hb cv Ar out sh H vs Q E (rm.deeper _) hsp
  have I := inv_start (CX := CX) (E := E) S rm.rm.hd e0 nl rv st
  refine wpAny_mono (pt.run [] s1 (L2.start N vs) H _ I hq) ?_ fun _ _ z => z
  intro fl s2 z
  match fl, z with
  | .ret u, ⟨v, σ2, H2, J, r2, q⟩ => exact ⟨v, H2, J.os, J.bare, J.base, J.hok, r2, q⟩
  | .next, ⟨σ2, H2, J, q⟩ => exact ⟨V.non, H2, J.os, J.bare, J.base, J.hok, rfl, q⟩
  | .brk, ⟨_, _, _, q⟩ => exact False.elim q
  | .cont, ⟨_, _, _, q⟩ => exact False.elim q
/-! ### the law's own call -/
section
variable {Pr : Program} {wd : World} {KK : PySem.W.Frag} {mg mb : Str → Option Value} {CX : CXT} {k : Nat} {fa a : Addr} {fd : FuncData} {x : Str} {sp : Sp} {sh : Shared} {us : List Value} {ns : List Int}
/-- from a heap of which the script alone may be known -/
theorem call_core (kin : KK.In sh.heap) (gl : sh.heap.Ns mainGlobals mg) (bl : sh.heap.Ns builtinsNs mb) (bb : ∀ x : Str, x ≠ "__name__" → mb x = bootBuiltins x) (lim : sh.heap.NoLimit) (ge : sh.gens = #[])
    (obj : sh.heap.get? a = some { cls := .type "list", data := .seq us.toArray }) (rm : RoomG k callerA) (Fp : ∀ base : Heap, KK.In base → base.Ns mainGlobals mg → FnG Pr wd KK mg base CX k fa fd [x] sp)
    (bd : ∀ (s : Shared) (u : Value), BindsTo s fd ⟨[u], []⟩ [(x, u)]) (no : ∀ H e s', CX [] H sh (fun _ _ _ => False) e s' → False)
    (H : Hp) (one : Only H) (hsp : sp [.ref a] H (fun v _ => v = .bl true) fun _ _ _ => False) (hok : HOk Pr wd H sh.heap) (mine : ∀ b, H b ≠ none → b = a) (free : H a ≠ none → KK.lookup a = none) :
    codeAny (model Pr wd) callerA (.call (.ref fa) ⟨[.ref a], []⟩) (fun r s' => r = .ok (.ret (.bool true)) ∧ OldK sh.heap s'.heap ∧ s'.os = sh.os ∧ AllBare s'.gens) sh := by
  have none_of : ∀ {b : Addr}, b ≠ a → H b = none := fun {b} ne => by
    by_cases z : H b = none
    · exact z
    · exact absurd (mine b z) ne
  have back : ∀ {b : Addr} {o : Obj}, sh.heap.get? b = some o → H b = none → (hidT sh.heap H).get? b = some o := fun q z => hidT_get q z
  have dicts : ∀ {b : Addr} {o : Obj} {es : Array DictEntry} {ep : Nat}, sh.heap.get? b = some o → o.data = .dict es ep → H b = none := fun {b o es ep} q d => by
    refine none_of fun z => ?_
    rw [z, obj] at q
    injection q with q
    rw [← q] at d
    exact Data.noConfusion d
  have spaces : ∀ {b : Addr} {m : Str → Option Value}, sh.heap.Ns b m → (hidT sh.heap H).Ns b m := by
    rintro b m ⟨o, es, ep, q, d, r⟩
    exact ⟨o, es, ep, back q (dicts q d), d, r⟩
  have kin2 : KK.In (hidT sh.heap H) := by
    intro b o q
    refine back (kin b o q) ?_
    by_cases z : H b = none
    · exact z
    · have e := mine b z
      rw [e] at q z
      rw [free z] at q
      cases q
  obtain ⟨mc, l1, l2⟩ := lim
  have e0 : Env0 Pr wd KK mg (hidT sh.heap H) callerA [] sh H := ⟨rfl, ⟨kin2, spaces gl, ⟨mb, spaces bl, bb⟩, ⟨mc, spaces l1, l2⟩⟩, fun _ _ q => of_hidT q, Nat.le_of_eq (hidT_size _ _), trivial, fun b z => absurd (show b ∈ ([] : List Addr) from z) (by simp), hok, .of_eq ge⟩
  refine codeAny_mono ((Fp _ kin2 (spaces gl)).run callerA [] sh H ⟨[.ref a], []⟩ [.ref a] [.ref a] _ _ rm e0 (bd sh (.ref a)) (.cons rfl .nil) hsp) ?_
  intro out s2 z
  match out, z with
  | .error e, z => exact (no H e s2 z).elim
  | .ok .next, z => exact False.elim z
  | .ok .brk, z => exact False.elim z
  | .ok .cont, z => exact False.elim z
  | .ok (.ret u), ⟨v, H2, os, bare, un, ok2, rv, q⟩ =>
    have ev : v = .bl true := q
    rw [ev] at rv
    have eu : u = Value.bool true := rv
    refine ⟨by rw [eu], OldK.of_keep fun b o g => ?_, os, bare⟩
    by_cases z : H b = none
    · exact un.keep b o g z (fun y => absurd (show b ∈ ([] : List Addr) from y) (by simp)) (by simp)
    · rcases one b with y | ⟨ob, xs, y⟩
      · exact absurd y z
      · obtain ⟨g1, _⟩ := hok b _ y
        obtain ⟨g2, _⟩ := ok2 b _ (un.frzs b ob _ y)
        rw [g] at g1
        injection g1 with g1
        rw [g1]
        exact g2
theorem call_G (kin : KK.In sh.heap) (gl : sh.heap.Ns mainGlobals mg) (bl : sh.heap.Ns builtinsNs mb) (bb : ∀ x : Str, x ≠ "__name__" → mb x = bootBuiltins x) (lim : sh.heap.NoLimit) (ge : sh.gens = #[])
    (obj : sh.heap.get? a = some { cls := .type "list", data := .seq us.toArray }) (ia : IntsAre us ns) (fit : ns.length ≤ sizeLine) (rm : RoomG k callerA) (Fp : ∀ base : Heap, KK.In base → base.Ns mainGlobals mg → FnG Pr wd KK mg base CX k fa fd [x] sp)
    (bd : ∀ (s : Shared) (u : Value), BindsTo s fd ⟨[u], []⟩ [(x, u)]) (hsp : ∀ H : Hp, Only H → SqL KK H a (ns.map V.int) → sp [.ref a] H (fun v _ => v = .bl true) fun _ _ _ => False) (no : ∀ H e s', CX [] H sh (fun _ _ _ => False) e s' → False) :
    codeAny (model Pr wd) callerA (.call (.ref fa) ⟨[.ref a], []⟩) (fun r s' => r = .ok (.ret (.bool true)) ∧ OldK sh.heap s'.heap ∧ s'.os = sh.os ∧ AllBare s'.gens) sh := by
  have rv := vals_ints ia
  have nl := ia.length
  rcases lk : KK.lookup a with _ | o
  · let Hs : Hp := fun b => if b = a then some (.frz { cls := .type "list", data := .seq us.toArray } (.lst (ns.map V.int))) else none
    have at_a : Hs a = some (.frz { cls := .type "list", data := .seq us.toArray } (.lst (ns.map V.int))) := if_pos rfl
    have off : ∀ b, b ≠ a → Hs b = none := fun b ne => if_neg ne
    have one : Only Hs := fun b => by
      by_cases z : b = a
      · rw [z]
        exact .inr ⟨_, _, at_a⟩
      · exact .inl (off b z)
    refine call_core kin gl bl bb lim ge obj rm Fp bd no Hs one (hsp Hs one (.inl (.inr ⟨{ cls := .type "list", data := .seq us.toArray }, at_a⟩))) (fun b u z => ?_) (fun b z => ?_) fun _ => lk
    · by_cases y : b = a
      · rw [y, at_a] at z
        injection z with z
        rw [y, ← z]
        exact ⟨obj, by rw [List.length_map]; exact fit, us, _, rv, obj⟩
      · rw [off b y] at z
        cases z
    · by_cases y : b = a
      · exact y
      · exact absurd (off b y) z
  · have q := kin a o lk
    rw [obj] at q
    injection q with q
    subst q
    have one : Only (fun _ => none) := fun _ => .inl rfl
    exact call_core kin gl bl bb lim ge obj rm Fp bd no (fun _ => none) one (hsp _ one (.inr ⟨_, us.toArray, _, lk, rfl, rfl, rfl, by rw [List.size_toArray, nl]; exact fit, by simpa using rv⟩)) (fun b u z => by injection z) (fun b z => absurd rfl z) (fun z => absurd rfl z)
end
theorem walk_G {l : PySem.W.OpenLaw} {m k : Nat} {q : Program} {loose : List Str} {XP : (Str → Option Value) → Heap → Prop} {YP : World → Heap → Prop} {d : DefRec} {CX : CXT} {x : Str}
    (h1 : l.most = some m) (h2 : m ≤ sizeLine) (h3 : d.params.defaults = []) (rm : RoomG k callerA)
    (Fp : ∀ (wd : World) (mg : Str → Option Value) (fa : Addr) (h : Heap), YP wd h → h.Ns mainGlobals mg → mg d.name = some (.ref fa) →
      ∃ (KK : PySem.W.Frag) (fd : FuncData) (sp : Sp), KK.In h ∧ (∀ (s : Shared) (u : Value), BindsTo s fd ⟨[u], []⟩ [(x, u)]) ∧
        (∀ (H : Hp) (a : Addr) (ns : List Int), ns.length ≤ m → Only H → SqL KK H a (ns.map V.int) → sp [.ref a] H (fun v _ => v = .bl true) fun _ _ _ => False) ∧
        ∀ base : Heap, KK.In base → base.Ns mainGlobals mg → FnG l.prog wd KK mg base CX k fa fd [x] sp)
    (no : ∀ (H : Hp) (s : Shared) (e : Value) (s' : Shared), CX [] H s (fun _ _ _ => False) e s' → False) :
    PySem.W.WalkO q loose XP YP l.row.toRowW d [] (fun f vs => PySem.call f vs) := by
  refine Att.attach_call h1 h3 ?_
  intro wd s0 s1 mg mb fa o pm cd doc a us ns G Y ho hd hcd hmg hobj hints hlen hg
  obtain ⟨KK, fd, sp, kin, bd, hsp, hF⟩ := Fp wd mg fa _ Y G.T.g hmg
  exact call_G kin G.T.g G.T.b G.T.builtins G.T.nolimit hg hobj hints (Nat.le_trans hlen h2) rm hF bd (fun H one q => hsp H a ns hlen one q) fun H e s' => no H s1 e s'
end PC
/-! repr of data with dicts in them. -/
namespace PC
open PySem PySem.Spec PyProof.Rows L2
mutual
/-- data as they lie in a heap; no dict is the table of modules -/
inductive RD (hp : Heap) : Value → PyData → Prop where
  | non : RD hp .none .none
  | bl (b : Bool) : RD hp (.bool b) (.bool b)
  | int (i : Int) (t : Tok) : RD hp (.int i t) (.int i)
  | str (x : Str) (t : Tok) : RD hp (.str x t) (.str x)
  | lst {q : Addr} {ob : Obj} {us : Array Value} {m : Nat} {ds : List PyData} : hp.get? q = some ob → ob.cls = .type "list" → ob.data = .seq us m → RDs hp us.toList ds → RD hp (.ref q) (.list ds)
  | tup {q : Addr} {ob : Obj} {us : Array Value} {m : Nat} {ds : List PyData} : hp.get? q = some ob → ob.cls = .type "tuple" → ob.data = .seq us m → RDs hp us.toList ds → RD hp (.ref q) (.tuple ds)
  | dct {q : Addr} {ob : Obj} {en : Array DictEntry} {m : Nat} {kv : List (PyData × PyData)} : hp.get? q = some ob → ob.cls = .type "dict" → ob.data = .dict en m → (q == sysModules) = false →
      RDs hp (en.toList.map (·.key)) (kv.map (·.1)) → RDs hp (en.toList.map (·.val)) (kv.map (·.2)) → RD hp (.ref q) (.dict kv)
inductive RDs (hp : Heap) : List Value → List PyData → Prop where
  | nil : RDs hp [] []
  | cons {u : Value} {us : List Value} {d : PyData} {ds : List PyData} : RD hp u d → RDs hp us ds → RDs hp (u :: us) (d :: ds)
end
mutual
theorem RD.reads {hp : Heap} : ∀ {u : Value} {d : PyData}, RD hp u d → ∃ as, Reads hp u d as
  | _, _, .non => ⟨_, .none⟩
  | _, _, .bl b => ⟨_, .bool b⟩
  | _, _, .int i t => ⟨_, .int i t⟩
  | _, _, .str x t => ⟨_, .str x t⟩
  | _, _, .lst g c e r => let ⟨_, z⟩ := RDs.reads r; ⟨_, .list g c e z⟩
  | _, _, .tup g c e r => let ⟨_, z⟩ := RDs.reads r; ⟨_, .tuple g c e z⟩
  | _, _, .dct g c e _ r1 r2 => let ⟨_, z1⟩ := RDs.reads r1; let ⟨_, z2⟩ := RDs.reads r2; ⟨_, .dict g c e z1 z2⟩
theorem RDs.reads {hp : Heap} : ∀ {us : List Value} {ds : List PyData}, RDs hp us ds → ∃ as, ReadsAll hp us ds as
  | _, _, .nil => ⟨_, .nil⟩
  | _, _, .cons r rs => let ⟨_, z1⟩ := RD.reads r; let ⟨_, z2⟩ := RDs.reads rs; ⟨_, .cons z1 z2⟩
end
section
variable {P : Program} {w : World} {hp : Heap}
mutual
theorem RD.rk : ∀ {u : Value} {d : PyData}, RD hp u d → d.showable = true → d.shown.length ≤ sizeLine → ∃ cs, ReadAtMost hp d.depth cs ∧ ReprK P w cs hp d.depth u d.shown
  | _, _, .non, _, _ => ⟨[], nofun, by rw [PyData.shown]; exact ReprK.of_is ReprIs.none _ _ _⟩
  | _, _, .bl b, _, _ => ⟨[], nofun, by rw [PyData.shown]; exact ReprK.of_is (ReprIs.bool b) _ _ _⟩
  | _, _, .int i t, sh, _ => ⟨[], nofun, by rw [PyData.shown]; exact ReprK.of_is (ReprIs.int t (by simpa only [PyData.showable, decide_eq_true_eq] using sh)) _ _ _⟩
  | _, _, .str x t, _, sz => ⟨[], nofun, by rw [PyData.shown] at sz ⊢; exact ReprK.of_is (ReprIs.str x t sz) _ _ _⟩
  | _, _, .lst (q := q) (us := us) (ds := ds) g c e r, sh, sz => by
    rw [PyData.shown] at sz
    obtain ⟨cs, c1, c2⟩ := RDs.rk r (by simpa only [PyData.showable] using sh) fun t ht => Nat.le_trans (listText_mem_le ht) sz
    obtain ⟨as, rd⟩ := (RD.lst g c e r).reads
    have lt : PyData.depthAll ds < (PyData.list ds).depth := by rw [PyData.depth]; omega
    refine ⟨q :: cs, ReadAtMost.cons rd (Nat.le_of_lt lt) c1, ?_⟩
    have nq := not_mem_of_deeper rd lt c1
    rw [PyData.depth, PyData.shown]
    cases us with
    | mk l =>
      cases l with
      | nil =>
        cases (show RDs hp [] ds from r)
        rw [PyData.shownAll, listText_nil]
        exact ReprK.listEmpty g c e
      | cons x l => exact ReprK.list g c e nq (by simpa using c2.length_eq) fun i y z => c2.item i y (by simpa using z)
  | _, _, .tup (q := q) (ds := ds) g c e r, sh, sz => by
    rw [PyData.shown] at sz
    obtain ⟨cs, c1, c2⟩ := RDs.rk r (by simpa only [PyData.showable] using sh) fun t ht => Nat.le_trans (tupleText_mem_le ht) sz
    obtain ⟨as, rd⟩ := (RD.tup g c e r).reads
    have lt : PyData.depthAll ds < (PyData.tuple ds).depth := by rw [PyData.depth]; omega
    refine ⟨q :: cs, ReadAtMost.cons rd (Nat.le_of_lt lt) c1, ?_⟩
    rw [PyData.depth, PyData.shown]
    exact ReprK.tuple g c e (not_mem_of_deeper rd lt c1) c2
  | _, _, .dct (q := q) (en := en) (kv := kv) g c e ns r1 r2, sh, sz => by
    rw [PyData.shown] at sz
    obtain ⟨s1, s2⟩ := PyData.showableKv_split kv (by simpa only [PyData.showable] using sh)
    obtain ⟨cs, c1, c2⟩ := RDs.rk r1 s1 fun t ht => let ⟨z, hz, le⟩ := PyData.shownKv_key_le kv t ht; Nat.le_trans (Nat.le_trans le (dictText_mem_le hz)) sz
    obtain ⟨ds, d1, d2⟩ := RDs.rk r2 s2 fun t ht => let ⟨z, hz, le⟩ := PyData.shownKv_val_le kv t ht; Nat.le_trans (Nat.le_trans le (dictText_mem_le hz)) sz
    obtain ⟨as, rd⟩ := (RD.dct g c e ns r1 r2).reads
    have k1 := PyData.depthAll_keys_le kv
    have k2 := PyData.depthAll_vals_le kv
    have both : ReadAtMost hp (PyData.depthKv kv) (cs ++ ds) := (c1.mono k1).append (d1.mono k2)
    have lt : PyData.depthKv kv < (PyData.dict kv).depth := by rw [PyData.depth]; omega
    refine ⟨q :: (cs ++ ds), ReadAtMost.cons rd (Nat.le_of_lt lt) both, ?_⟩
    rw [PyData.depth, PyData.shown, PyData.shownKv_eq]
    exact ReprK.dict g c e ns (not_mem_of_deeper rd lt both) (ReprEntriesK.of_two en.toList _ _ (c2.more_le (fun b hb => by simp [hb]) k1) (d2.more_le (fun b hb => by simp [hb]) k2))
theorem RDs.rk : ∀ {us : List Value} {ds : List PyData}, RDs hp us ds → PyData.showableAll ds = true → (∀ t ∈ PyData.shownAll ds, t.length ≤ sizeLine) → ∃ cs, ReadAtMost hp (PyData.depthAll ds) cs ∧ ReprAllK P w cs hp (PyData.depthAll ds) us (PyData.shownAll ds)
  | _, _, .nil, _, _ => ⟨[], nofun, by rw [PyData.shownAll]; exact .nil⟩
  | _, _, .cons (d := d) (ds := ds) r rs, sh, sz => by
    rw [PyData.showableAll, Bool.and_eq_true] at sh
    obtain ⟨cs, c1, c2⟩ := RD.rk r sh.1 (sz _ (by rw [PyData.shownAll]; simp))
    obtain ⟨es, e1, e2⟩ := RDs.rk rs sh.2 fun t ht => sz t (by rw [PyData.shownAll]; simp [ht])
    have m1 : d.depth ≤ PyData.depthAll (d :: ds) := by rw [PyData.depthAll]; omega
    have m2 : PyData.depthAll ds ≤ PyData.depthAll (d :: ds) := by rw [PyData.depthAll]; omega
    refine ⟨cs ++ es, (c1.mono m1).append (e1.mono m2), ?_⟩
    have q1 := (c2.more (as' := cs ++ es) fun b hb => by simp [hb]).level_le m1
    have q2 := e2.more_le (as' := cs ++ es) (fun b hb => by simp [hb]) m2
    rw [PyData.shownAll]
    exact .cons q1 q2
end
/-- repr of what lies in the heap -/
theorem repr_RD {A : Around} {E : Value → Shared → Prop} {s : Shared} {Q : Value → Shared → Prop} {u : Value} {d : PyData} (r : RD s.heap u d) (sh : d.showable = true) (sz : d.shown.length ≤ sizeLine) (gu : A.guards = some []) (un : A.units + (d.depth + 1) < cLine)
    (fin : ∀ h' t tk, (∀ b o, s.heap.get? b = some o → h'.get? b = some o) → Q (.str d.shown t) { s with heap := h', toks := tk }) : wpAny (model P w) A (call (.builtin "repr") [u]) Q E s := by
  have gu1 : A.in1.guards = some [] := gu
  have un1 : A.in1.units = A.units + 1 := A.in1_units
  cases r with
  | non => rw [PyData.shown] at fin; exact PySem.P.repr_of_none (fin s.heap _ _ fun _ _ e => e)
  | bl b => rw [PyData.shown] at fin; exact PySem.P.repr_of_bool (fin s.heap _ _ fun _ _ e => e)
  | int i t => rw [PyData.shown] at fin; exact PySem.P.repr_of_int (by simpa only [PyData.showable, decide_eq_true_eq] using sh) (fin s.heap _ _ fun _ _ e => e)
  | str x t => rw [PyData.shown] at fin sz; exact PySem.P.repr_of_str (hsz := sz) (fin s.heap _ _ fun _ _ e => e)
  | lst g c e r =>
    rename_i q ob us m ds
    obtain ⟨as, rd⟩ := (RD.lst g c e r).reads
    rw [PyData.shown] at sz fin
    rw [PyData.depth] at un
    obtain ⟨cs, c1, c2⟩ := RDs.rk (P := P) (w := w) r (by simpa only [PyData.showable] using sh) fun t ht => Nat.le_trans (listText_mem_le ht) sz
    have nq := not_mem_of_deeper rd (by rw [PyData.depth]; omega) c1
    refine call_repr_slot (by omega) ⟨ob, g, c⟩ F.slot_list_repr.toG ?_
    cases us with
    | mk l =>
      cases l with
      | nil =>
        cases (show RDs s.heap [] ds from r)
        rw [PyData.shownAll, listText_nil] at fin
        exact call_list_repr_empty ⟨ob, g, c⟩ g e ⟨_, _, rfl, fin s.heap _ _ fun _ _ z => z⟩
      | cons x l => exact call_list_reprK g c e nq (by simpa using c2.length_eq) (fun i y z => c2.item i y (by simpa using z)) gu1 (fun b _ => Clear.nil b) (by omega) (fun _ _ z => z) (fun h' t tk k => ⟨_, _, rfl, fin h' t tk k⟩) sz
  | tup g c e r =>
    rename_i q ob us m ds
    obtain ⟨as, rd⟩ := (RD.tup g c e r).reads
    rw [PyData.shown] at sz fin
    rw [PyData.depth] at un
    obtain ⟨cs, c1, c2⟩ := RDs.rk (P := P) (w := w) r (by simpa only [PyData.showable] using sh) fun t ht => Nat.le_trans (tupleText_mem_le ht) sz
    have nq := not_mem_of_deeper rd (by rw [PyData.depth]; omega) c1
    exact call_repr_slot (by omega) ⟨ob, g, c⟩ F.slot_tuple_repr (call_tuple_reprK g c e nq c2 gu1 (fun b _ => Clear.nil b) (by omega) (fun _ _ z => z) (fun h' t tk k => ⟨_, _, rfl, fin h' t tk k⟩) sz)
  | dct g c e ns r1 r2 =>
    rename_i q ob en m kv
    obtain ⟨as, rd⟩ := (RD.dct g c e ns r1 r2).reads
    rw [PyData.shown] at sz fin
    rw [PyData.depth] at un
    obtain ⟨s1, s2⟩ := PyData.showableKv_split kv (by simpa only [PyData.showable] using sh)
    obtain ⟨cs, c1, c2⟩ := RDs.rk (P := P) (w := w) r1 s1 fun t ht => let ⟨z, hz, le⟩ := PyData.shownKv_key_le kv t ht; Nat.le_trans (Nat.le_trans le (dictText_mem_le hz)) sz
    obtain ⟨ds, d1, d2⟩ := RDs.rk (P := P) (w := w) r2 s2 fun t ht => let ⟨z, hz, le⟩ := PyData.shownKv_val_le kv t ht; Nat.le_trans (Nat.le_trans le (dictText_mem_le hz)) sz
    have k1 := PyData.depthAll_keys_le kv
    have k2 := PyData.depthAll_vals_le kv
    have nq := not_mem_of_deeper rd (n := PyData.depthKv kv) (by rw [PyData.depth]; omega) ((c1.mono k1).append (d1.mono k2))
    rw [PyData.shownKv_eq] at fin sz
    exact call_repr_slot (by omega) ⟨ob, g, c⟩ F.slot_dict_repr (call_dict_reprK g c e ns nq (ReprEntriesK.of_two en.toList _ _ (c2.more_le (fun b hb => by simp [hb]) k1) (d2.more_le (fun b hb => by simp [hb]) k2)) gu1 (fun b _ => Clear.nil b) (by omega) (fun _ _ z => z)
      (fun h' t tk k => ⟨_, _, rfl, fin h' t tk k⟩) sz)
end
/-! ### by what is tracked -/
mutual
inductive DX (w : World) (K : PySem.W.Frag) (H : Hp) : V → PyData → Prop where
  | non : DX w K H .non .none
  | bl (b : Bool) : DX w K H (.bl b) (.bool b)
  | int (i : Int) : DX w K H (.int i) (.int i)
  | str (x : Str) : DX w K H (.str x) (.str x)
  | lst {a : Addr} {vs : List V} {ds : List PyData} : SqL K H a vs → DXs w K H vs ds → DX w K H (.ref a) (.list ds)
  | tup {a : Addr} {vs : List V} {ds : List PyData} : SqT K H a vs → DXs w K H vs ds → DX w K H (.ref a) (.tuple ds)
  | dct {a : Addr} {ks : List NestedKey} {vs : List V} {ds : List PyData} {kv : List (PyData × PyData)} : DctAt w H a ks vs → DXs w K H vs ds → pairsX ds = some kv → DX w K H (.ref a) (.dict kv)
inductive DXs (w : World) (K : PySem.W.Frag) (H : Hp) : List V → List PyData → Prop where
  | nil : DXs w K H [] []
  | cons {v : V} {vs : List V} {d : PyData} {ds : List PyData} : DX w K H v d → DXs w K H vs ds → DXs w K H (v :: vs) (d :: ds)
end
section
variable {X : Cx} {pins : List (Addr × Obj)} {σ : L2.St} {H : Hp} {s : Shared}
mutual
theorem DX.rd (I : Inv X pins σ H s) : ∀ {v : V} {d : PyData} {u : Value}, DX X.w X.K H v d → RelV v u → RD s.heap u d
  | _, _, _, .non, r => by cases (show _ = Value.none from r); exact .non
  | _, _, _, .bl b, r => by cases (show _ = Value.bool b from r); exact .bl b
  | _, _, _, .int i, r => by obtain ⟨t, q⟩ := (show ∃ t, _ = Value.int i t from r); subst q; exact .int i t
  | _, _, _, .str x, r => by obtain ⟨t, q⟩ := (show ∃ t, _ = Value.str x t from r); subst q; exact .str x t
  | _, _, _, .lst h c, r => by
    cases (show _ = Value.ref _ from r)
    obtain ⟨its, rv, ⟨o, n, ho, hc, _, hd⟩, _⟩ := I.list h
    exact .lst ho hc hd (DXs.rd I c rv)
  | _, _, _, .tup h c, r => by
    cases (show _ = Value.ref _ from r)
    obtain ⟨its, rv, ⟨o, ho, hc, n, hd⟩, _⟩ := I.tuple h
    exact .tup ho hc hd (DXs.rd I c rv)
  | _, _, _, .dct h c p, r => by
    cases (show _ = Value.ref _ from r)
    obtain ⟨o, e, hs, ex, _, _, es, ep, hd, en⟩ := h
    obtain ⟨q1, q2⟩ := DXs.rdE I c p en
    exact .dct (obj_at I.hok e) ex.1 hd hs q1 q2
theorem DXs.rd (I : Inv X pins σ H s) : ∀ {vs : List V} {ds : List PyData} {us : List Value}, DXs X.w X.K H vs ds → Vals vs us → RDs s.heap us ds
  | _, _, _, .nil, .nil => .nil
  | _, _, _, .cons a b, .cons r t => .cons (DX.rd I a r) (DXs.rd I b t)
theorem DXs.rdE (I : Inv X pins σ H s) : ∀ {ks : List NestedKey} {vs : List V} {ds : List PyData} {kv : List (PyData × PyData)} {es : List DictEntry}, DXs X.w X.K H vs ds → pairsX ds = some kv → Ents X.w ks vs es →
    RDs s.heap (es.map (·.key)) (kv.map (·.1)) ∧ RDs s.heap (es.map (·.val)) (kv.map (·.2))
  | _, _, _, kv, _, .nil, p, .nil => by
    simp only [pairsX, Option.some.injEq] at p
    subst p
    exact ⟨.nil, .nil⟩
  | _, _, _, kv, _, .cons a (.cons b c), p, .cons _ e2 e3 t => by
    simp only [pairsX, Option.map_eq_some_iff] at p
    obtain ⟨kv', p, rfl⟩ := p
    obtain ⟨z1, z2⟩ := DXs.rdE I c p t
    exact ⟨.cons (DX.rd I a e2) z1, .cons (DX.rd I b e3) z2⟩
end
end
section
variable {G : Glb}
mutual
theorem dx_c {H : Hp} {S : Addr → Prop} {look : Nat → Option PyData} : ∀ {t : T} {v : V} {d : PyData}, RepC G H S v t → toX look t = some d → DX G.w G.K H v d
  | _, _, _, .non, e => by simp only [toX, Option.some.injEq] at e; subst e; exact .non
  | _, _, _, .bl b, e => by simp only [toX, Option.some.injEq] at e; subst e; exact .bl b
  | _, _, _, .int i, e => by simp only [toX, Option.some.injEq] at e; subst e; exact .int i
  | _, _, _, .str x, e => by simp only [toX, Option.some.injEq] at e; subst e; exact .str x
  | .nd g _ xs, _, d, .nd s h c, e => dx_n g h e fun ds e' => dx_cs c e'
  | .nd g _ xs, _, d, .ndK h c, e => dx_n g (h H) e fun ds e' => dx_cs c e'
theorem dx_n {H : Hp} {look : Nat → Option PyData} {a : Addr} {o : Ow} {vs : List V} {xs : List T} {d : PyData} : ∀ (g : Tag), AtF G H a g vs → toX look (.nd g o xs) = some d → (∀ ds, toXs look xs = some ds → DXs G.w G.K H vs ds) → DX G.w G.K H (.ref a) d
  | .tup, h, e, k => by
    simp only [toX, Option.map_eq_some_iff] at e
    obtain ⟨ds, e1, rfl⟩ := e
    exact .tup (SqT.of h) (k ds e1)
  | .lst, h, e, k => by
    simp only [toX, Option.map_eq_some_iff] at e
    obtain ⟨ds, e1, rfl⟩ := e
    exact .lst (SqL.of h) (k ds e1)
  | .dic _, h, e, k => by
    simp only [toX, Option.map_eq_some_iff, Option.bind_eq_some_iff] at e
    obtain ⟨kv, ⟨ds, e1, e2⟩, rfl⟩ := e
    exact .dct h (k ds e1) e2
  | .scr, h, e, k => by simp only [toX] at e; cases e
  | .obj _ _, h, e, k => by simp only [toX] at e; cases e
theorem dx_cs {H : Hp} {S : Addr → Prop} {look : Nat → Option PyData} : ∀ {ts : List T} {vs : List V} {ds : List PyData}, RepCs G H S vs ts → toXs look ts = some ds → DXs G.w G.K H vs ds
  | _, _, _, .nil, e => by simp only [toXs, Option.some.injEq] at e; subst e; exact .nil
  | _, _, ds, .cons h c, e => by
    simp only [toXs] at e
    split at e
    · rename_i d ds' e1 e2
      simp only [Option.some.injEq] at e
      subst e
      exact .cons (dx_c h e1) (dx_cs c e2)
    · cases e
end
mutual
theorem dx_0 {H : Hp} {S : Addr → Prop} {r : List Addr} {look : Nat → Option PyData} (hl : ∀ k a d, r[k]? = some a → look k = some d → DX G.w G.K H (.ref a) d) :
    ∀ {t : T} {v : V} {d : PyData}, Rep0 G H S r v t → toX look t = some d → DX G.w G.K H v d
  | _, _, _, .cl h, e => dx_c h e
  | .ref k, _, d, .ref hk, e => by simp only [toX] at e; exact hl k _ d hk e
  | .nd _ _ xs, _, d, .fzr s h c, e => dx_n .tup h e fun ds e' => dx_0s hl c e'
theorem dx_0s {H : Hp} {S : Addr → Prop} {r : List Addr} {look : Nat → Option PyData} (hl : ∀ k a d, r[k]? = some a → look k = some d → DX G.w G.K H (.ref a) d) :
    ∀ {ts : List T} {vs : List V} {ds : List PyData}, Rep0s G H S r vs ts → toXs look ts = some ds → DXs G.w G.K H vs ds
  | _, _, _, .nil, e => by simp only [toXs, Option.some.injEq] at e; subst e; exact .nil
  | _, _, ds, .cons h c, e => by
    simp only [toXs] at e
    split at e
    · rename_i d ds' e1 e2
      simp only [Option.some.injEq] at e
      subst e
      exact .cons (dx_0 hl h e1) (dx_0s hl c e2)
    · cases e
end
mutual
theorem dx_o {H : Hp} {S : Addr → Prop} {r : List Addr} {look : Nat → Option PyData} (hl : ∀ k a d, r[k]? = some a → look k = some d → DX G.w G.K H (.ref a) d) :
    ∀ {t : T} {v : V} {d : PyData} {F : List Addr}, RepO G H S r v t F → toX look t = some d → DX G.w G.K H v d
  | _, _, _, _, .of0 h, e => dx_0 hl h e
  | .nd g _ xs, _, d, _, .own h c, e => dx_n g h.f e fun ds e' => dx_cs c e'
  | .nd g _ xs, _, d, _, .opn h c, e => dx_n g h.f e fun ds e' => dx_os hl c e'
theorem dx_os {H : Hp} {S : Addr → Prop} {r : List Addr} {look : Nat → Option PyData} (hl : ∀ k a d, r[k]? = some a → look k = some d → DX G.w G.K H (.ref a) d) :
    ∀ {ts : List T} {vs : List V} {ds : List PyData} {F : List Addr}, RepOs G H S r vs ts F → toXs look ts = some ds → DXs G.w G.K H vs ds
  | _, _, _, _, .nil, e => by simp only [toXs, Option.some.injEq] at e; subst e; exact .nil
  | _, _, ds, _, .cons h c, e => by
    simp only [toXs] at e
    split at e
    · rename_i d ds' e1 e2
      simp only [Option.some.injEq] at e
      subst e
      exact .cons (dx_o hl h e1) (dx_os hl c e2)
    · cases e
end
theorem dx_look {w : Wd} (ok : w.Ok G) : ∀ (n k : Nat) (a : Addr) (d : PyData), w.r[k]? = some a → lookX w.st n k = some d → DX G.w G.K w.H (.ref a) d
  | 0, _, _, _, _, e => by simp only [lookX] at e; cases e
  | n + 1, k, a, d, hk, e => by
    simp only [lookX] at e
    split at e
    · rename_i t ht
      have c := ok.cells k a t hk ht
      cases t with
      | nd g o xs =>
        cases o with
        | fz => obtain ⟨s, vs, h, q⟩ := c; exact dx_n g h e fun ds e' => dx_cs q e'
        | fzr => exact c.elim
        | own => obtain ⟨s, vs, h, q⟩ := c; exact dx_n g h.f e fun ds e' => dx_cs q e'
        | lk => obtain ⟨s, vs, h, q⟩ := c; exact dx_n g h.f e fun ds e' => dx_cs q e'
        | opn => obtain ⟨s, vs, h, q⟩ := c; exact dx_n g h.f e fun ds e' => dx_0s (dx_look ok n) q.take_r e'
        | lkx => obtain ⟨s, vs, h, q⟩ := c; exact dx_n g h.f e fun ds e' => dx_0s (dx_look ok n) q.take_r e'
      | _ => exact c.elim
    · cases e
theorem dx_of {w : Wd} (ok : w.Ok G) {t : T} {v : V} {d : PyData} {F : List Addr} (h : w.RO G v t F) (e : dataX w.st t = some d) : DX G.w G.K w.H v d := dx_o (dx_look ok 4) h e
end
/-! what toD finds, toX finds -/
mutual
theorem toX_of {l1 l2 : Nat → Option PyData} (h : ∀ k d, l1 k = some d → l2 k = some d) : ∀ {t : T} {d : PyData}, toD l1 t = some d → toX l2 t = some d
  | .non, _, e => by simpa only [toD, toX] using e
  | .bl _, _, e => by simpa only [toD, toX] using e
  | .int _, _, e => by simpa only [toD, toX] using e
  | .str _, _, e => by simpa only [toD, toX] using e
  | .exc _, _, e => by simp only [toD] at e; cases e
  | .ref k, d, e => by simp only [toD] at e; simp only [toX]; exact h k d e
  | .nd .lst _ xs, _, e => by
    simp only [toD, Option.map_eq_some_iff] at e
    obtain ⟨ds, e1, rfl⟩ := e
    simp only [toX, toXs_of h e1, Option.map_some]
  | .nd .tup _ xs, _, e => by
    simp only [toD, Option.map_eq_some_iff] at e
    obtain ⟨ds, e1, rfl⟩ := e
    simp only [toX, toXs_of h e1, Option.map_some]
  | .nd .scr _ _, _, e => by simp only [toD] at e; cases e
  | .nd (.dic _) _ _, _, e => by simp only [toD] at e; cases e
  | .nd (.obj _ _) _ _, _, e => by simp only [toD] at e; cases e
theorem toXs_of {l1 l2 : Nat → Option PyData} (h : ∀ k d, l1 k = some d → l2 k = some d) : ∀ {ts : List T} {ds : List PyData}, toDs l1 ts = some ds → toXs l2 ts = some ds
  | [], _, e => by simpa only [toDs, toXs] using e
  | t :: ts, ds, e => by
    simp only [toDs] at e
    split at e
    · rename_i d ds' e1 e2
      simp only [Option.some.injEq] at e
      subst e
      simp only [toXs, toX_of h e1, toXs_of h e2]
    · cases e
end
theorem lookX_of (st : Store) : ∀ (n k : Nat) (d : PyData), lookN st n k = some d → lookX st n k = some d
  | 0, _, _, e => by simp only [lookN] at e; cases e
  | n + 1, k, d, e => by
    simp only [lookN] at e
    simp only [lookX]
    split at e
    · rename_i t ht
      first | exact toX_of (lookX_of st n) e | (rw [ht]; exact toX_of (lookX_of st n) e)
    · cases e
theorem dataX_of {st : Store} {t : T} {d : PyData} (h : dataOf st t = some d) : dataX st t = some d := toX_of (lookX_of st 4) h
/-! the rule -/
def rReprX (w : World) (K : PySem.W.Frag) : List V → Hp → VK → Prop := fun vs H Q => ∃ (v : V) (d : PyData), vs = [v] ∧ DX w K H v d ∧ d.showable = true ∧ (d.shown.length ≤ sizeLine ∧ d.depth ≤ 60) ∧ Q (.str d.shown) H
theorem cr_reprX {X : Cx} (hg : X.A.guards = some []) (hu : X.A.units + 70 < cLine) : CallR X (.builtin "repr") (rReprX X.w X.K) := by
  intro pins s σ H vs us Q I r h
  obtain ⟨v, d, rfl, dx, h1, ⟨h3, h4⟩, q⟩ := h
  obtain ⟨u, rfl, ru⟩ := vals1 r
  exact repr_RD (DX.rd I dx ru) h1 h3 hg (by omega) fun h' t tk kp => ⟨.str d.shown, H, I.kept kp, ⟨t, rfl⟩, q⟩
end PC
namespace PC
open PySem PySem.Spec PyProof.Rows L2
/-! ### sum, extend of a tuple -/
section
variable {pr : Program} {wo : World} {Ar : Around} {Ex : Value → Shared → Prop} {sh : Shared} {tu : Addr} {ws : Array (Int × Tok)}
theorem sum_intTupG {Q : Value → Shared → Prop} (hnone : Ar.handled = none) (isT : sh.heap.IsTuple tu (intItems ws))
    (fin : ∀ hp2 tk tk2, (∀ b o, sh.heap.get? b = some o → hp2.get? b = some o) → Q (.int (preSum (numAt ws) ws.size) tk2) { sh with heap := hp2, toks := tk }) :
    wpAny (model pr wo) Ar (call (.builtin "sum") [.ref tu]) Q Ex sh := by
  have old : tu < sh.heap.objs.size := isT.elim fun _ e => Heap.lt_size e.1
  refine call_sum_walkG (wpAny_pyIter_tuple isT ?_)
  refine ⟨_, [_, tu], [_], _, _, _, numAt ws, rfl, Walks.tuple (A := Ar.in1) hnone _ tu (Nat.ne_of_lt old) (intItems ws), ⟨⟨_, Heap.get?_push_size _ rfl, rfl, rfl⟩, isT.push _⟩, fun c hc => ?_, (fun _ _ => intItems_at), fun hp2 tk tk2 keep => ?_⟩
  · show c < (sh.heap.push _).objs.size
    rw [Heap.size_push]
    simp only [List.mem_cons, List.not_mem_nil, or_false] at hc
    cases hc with
    | inl e => rw [e]; exact Nat.lt_succ_self _
    | inr e => rw [e]; exact Nat.lt_succ_of_lt old
  · have kept : ∀ b o, sh.heap.get? b = some o → hp2.get? b = some o := fun b o e =>
      keep b o (fun inn => by
        simp only [List.mem_cons, List.not_mem_nil, or_false] at inn
        have lt := Heap.lt_size e
        rw [inn] at lt
        exact Nat.lt_irrefl _ lt) (Heap.get?_push_of_some _ e)
    have := fin hp2 tk tk2 kept
    simpa [intItems] using this
end
section
variable {X : Cx}
def rSumX (K : PySem.W.Frag) : List V → Hp → VK → Prop := fun vs H Q => rSum K vs H Q ∨ ∃ (a : Addr) (ns : List Int), vs = [V.ref a] ∧ SqT K H a (ns.map V.int) ∧ Q (.int ns.sum) H
theorem cr_sumX (calm : X.calm = true) : CallR X (.builtin "sum") (rSumX X.K) := by
  intro pins s σ H vs us Q I rv h
  rcases h with h | ⟨a, ns, rfl, sq, q⟩
  · exact cr_sum calm pins s σ H vs us Q I rv h
  · obtain ⟨its, r2, isT, _⟩ := I.tuple sq
    rw [Vals.ref1 rv]
    obtain ⟨ws, e⟩ := r2.ints.allInts.items
    have hn : numsOf (intItems ws).toList = ns := by rw [← e]; exact r2.ints.numsOf
    rw [nums_intItems] at hn
    rw [e] at isT
    refine sum_intTupG (I.ok.hd calm) isT fun h' tk t' hk => ?_
    rw [preSum_eq, List.take_of_length_le (by simp)]
    rw [hn]
    exact ⟨.int _, H, I.kept hk, ⟨_, rfl⟩, q⟩
theorem extend_tup (li : Addr) (as : Array Value) (n : Nat) (tu : Addr) (bs : Array Value) (n2 : Nat) (dd : Option Addr) (sl : Array (Option Value)) (h0 : ¬(!as.isEmpty && Builtin.List.listTooLong (as.size + bs.size)) = true) (h1 : as.size ≤ sizeLine) (h2 : as.size + bs.size ≤ sizeLine + 1) :
    Meets (Builtin.«list.extend» ⟨[.ref li, .ref tu], []⟩) (fun _ R s => s.heap.get? li = some { cls := .type "list", dict := none, data := .seq as n, slots := #[] } ∧ s.heap.get? tu = some { cls := .type "tuple", dict := dd, data := .seq bs n2, slots := sl } ∧ R (.ok (.ret Value.none)) { s with heap := s.heap.update li (Obj.mapSeq fun x => x ++ bs), toks := s.toks }) :=
  .of_wp fun pr wo Ar Rr sh h => by
    obtain ⟨hp, gs, dr, tk, os⟩ := sh
    obtain ⟨atL, atT, fin⟩ := h
    have f2 := AutoSeq1.sub_tuple_tuple
    have f3 := AutoSeq1.sub_list_list
    have f4 := AutoSeq1.sub_tuple_list
    have f5 := AutoSeq1.sub_list_tuple
    have long : (as ++ bs).size ≤ sizeLine + 1 := by simpa using h2
    wp_walk using (wpAny_updateSeq atL rfl (hz := h1) (_hz' := long)), AutoSeq1.wpAny_loadPart' atL, AutoSeq1.wpAny_loadPart' atT; exact ⟨_, rfl, fin⟩
def rExtendX (K : PySem.W.Frag) : V → List V → Hp → VK → Prop := fun x vs H Q => rExtend x vs H Q ∨ ∃ l b xs zs, x = .ref l ∧ vs = [.ref b] ∧ H l = some (.lst xs) ∧ SqT K H b zs ∧ xs.length + zs.length ≤ sizeLine ∧ Q .non (upd H l (.lst (xs ++ zs)))
theorem mt_extendX : MtM X "list.extend" (rExtendX X.K) := by
  intro pins s σ H x vs v us Q I r0 rv h
  rcases h with h | ⟨l, b, xs, zs, rfl, rfl, hH, hB, hz, q⟩
  · exact mt_extend pins s σ H x vs v us Q I r0 rv h
  cases r0
  obtain ⟨u, rfl, ru⟩ := rv.one
  cases ru
  obtain ⟨z, as, n, r, la, e⟩ := I.lstM hH
  obtain ⟨bs, r2, ⟨⟨cls2, dd, dat2, sl⟩, e2, hc2, n2, hd2⟩, z2⟩ := I.tuple hB
  have lb := r2.length
  simp only at hc2 hd2
  subst hc2 hd2
  have fits : as.toArray.size + bs.toArray.size ≤ sizeLine := by simp only [List.size_toArray]; omega
  have nolong : ¬ (!as.toArray.isEmpty && Builtin.List.listTooLong (as.toArray.size + bs.toArray.size)) = true := by
    rw [notLongL fits]; simp
  refine call_meets F.slot_list_extend ⟨_, e, rfl⟩ F.entry_list_extend (F.args_list_extend_2 _ _) (extend_tup l as.toArray n b bs.toArray n2 dd sl nolong (by rw [List.size_toArray]; omega) (by omega)) ⟨e, e2, ?_⟩
  refine ⟨.non, _, I.lset (its' := as ++ bs) hH e (by simp) (r.append r2) ?_, rfl, q⟩
  simp only [List.length_append]; omega
end
end PC
namespace PC
open PySem PySem.Spec PyProof.Rows L2
/-! ### a tuple backwards: t[::-1] -/
section
variable {pr : Program} {wo : World} {Ar : Around} {Ex : Value → Shared → Prop} {sh : Shared}
theorem adjust_back (n : Nat) : Builtin.Slice.sliceAdjust none none (-1) (n : Int) = ((n : Int) - 1, -1) := by
  unfold Builtin.Slice.sliceAdjust
  simp
theorem places_back (n : Nat) : Builtin.Slice.slicePlaces ((n : Int) - 1) (-1) (-1) = n := by
  unfold Builtin.Slice.slicePlaces
  simp
  omega
theorem applied_back {sl : Addr} {vs : Value} {n : Nat} {Q : Int × Int × Nat → Shared → Prop} (is : sh.heap.IsSliceOf sl .none .none vs) (ps : IsPart vs (some (-1)))
    (h : Q ((n : Int) - 1, -1, n) sh) : wpAny (model pr wo) Ar (Builtin.Slice.sliceApplied (.ref sl) (pure (n : Int))) Q Ex sh := by
  obtain ⟨os, at_, _, ds⟩ := id is
  unfold Builtin.Slice.sliceApplied Builtin.Slice.sliceFields
  refine wpAny_bind (wpAny_bind (wpAny_field at_ ds (x := .none) rfl (wpAny_bind (wpAny_field at_ ds (x := .none) rfl (wpAny_bind (wpAny_field at_ ds (x := vs) rfl (wpAny_pure ?_)))))))
  refine wpAny_bind (HT.slicePart_ ps ?_)
  show wpAny _ _ (if ((-1 : Int) == 0) = true then _ else _) _ _ sh
  rw [if_neg (by decide)]
  refine wpAny_bind (HT.slicePart_ .none (wpAny_bind (HT.slicePart_ .none (wpAny_bind (wpAny_pure ?_)))))
  show wpAny _ _ (match Builtin.Slice.sliceAdjust none none (-1) (n : Int) with | (lo, hi) => pure (lo, (-1 : Int), Builtin.Slice.slicePlaces lo hi (-1))) _ _ sh
  rw [adjust_back n]
  show wpAny _ _ (pure ((n : Int) - 1, (-1 : Int), Builtin.Slice.slicePlaces ((n : Int) - 1) (-1) (-1))) _ _ sh
  rw [places_back]
  exact wpAny_pure h
theorem pick_back (xs : Array Value) : ((List.range xs.size).filterMap fun (m : Nat) => xs[((xs.size : Int) - 1 + (m : Int) * -1).toNat]?).toArray = xs.toList.reverse.toArray := by
  have e : ((List.range xs.size).filterMap fun (m : Nat) => xs[((xs.size : Int) - 1 + (m : Int) * -1).toNat]?) = ((List.range xs.size).map fun k => xs.size - 1 - k).filterMap (xs[·]?) := by
    rw [List.filterMap_map]
    have key : ∀ m : Nat, m < xs.size → ((xs.size : Int) - 1 + (m : Int) * -1).toNat = xs.size - 1 - m := fun m hm => by omega
    have go : ∀ l : List Nat, (∀ m ∈ l, m < xs.size) → (l.filterMap fun (m : Nat) => xs[((xs.size : Int) - 1 + (m : Int) * -1).toNat]?) = l.filterMap ((fun x => xs[x]?) ∘ fun k => xs.size - 1 - k) := by
      intro l
      induction l with
      | nil => intro _; rfl
      | cons m l ih =>
        intro hl
        have h1 := key m (hl m (by simp))
        have h2 := ih fun j hj => hl j (by simp [hj])
        simp only [List.filterMap_cons, Function.comp_apply, h1]
        rw [h2]
    exact go _ fun m hm => List.mem_range.mp hm
  rw [e, PySem.W.krv_range, List.filterMap_reverse, PySem.W.krv_all]
theorem item_back {t sl : Addr} {its : Array Value} {vs : Value} {Q : Value → Shared → Prop} (ht : IsTup sh.heap t its) (is : sh.heap.IsSliceOf sl .none .none vs) (ps : IsPart vs (some (-1)))
    (h : Q (.ref sh.heap.objs.size) { sh with heap := sh.heap.push { cls := .type "tuple", data := .seq its.toList.reverse.toArray } })
    (hsz : its.size ≤ sizeLine) : wpAny (model pr wo) Ar (getItem (.ref t) (.ref sl)) Q Ex sh := by
  have fits : sizeOk (.seq its.toList.reverse.toArray) := by
    show its.toList.reverse.toArray.size ≤ sizeLine
    simpa using hsz
  obtain ⟨os, at_, cs, _⟩ := id is
  have isS : sh.TypeIs (.ref sl) "slice" := ⟨os, at_, cs⟩
  unfold getItem
  try with_reducible refine wpAny_holding ?_
  first | refine wpAny_bind (wpAny_pure ?_) | skip
  refine wpAny_bind (wpAny_sequenceKey ht.typeIs (by decide) ?_)
  refine wpAny_bind (wpAny_callSpecial?_slot (name := Str.ofString "__getitem__") ht.typeIs PyProof.Rows.slot_tuple_getitem (wpAny_call_entry PyProof.Rows.slot_tuple_getitem ht.typeIs entry_tuple_getitem ?_ (args_tuple_getitem _ _)))
  show wpAny _ _ (Builtin.Tuple.tupleItemsOf (.ref t) >>= _) _ _ sh
  refine wpAny_bind (PyProof.Rows.tupleItemsOf_ ht ?_)
  refine wpAny_bind (wpAny_typeOf isS ?_)
  rw [if_pos (by decide)]
  refine wpAny_bind (applied_back is ps ?_)
  have notwhole : ¬ ((((its.size : Int) - 1 == 0) && ((-1 : Int) == 1) && (its.size == its.size)) = true) := by simp
  show wpAny _ _ (if (((its.size : Int) - 1 == 0) && ((-1 : Int) == 1) && (its.size == its.size)) = true then _ else _) _ _ sh
  rw [if_neg notwhole, pick_back]
  first
    | exact wpAny_bind (m := Builtin.Tuple.tupleExact _) (wpAny_newObj_type (wpAny_pure ⟨_, rfl, wpAny_pure h⟩) fits)
    | exact wpAny_bind (wpAny_bind (m := Builtin.Tuple.tupleExact _) (wpAny_newObj_type (wpAny_pure (wpAny_pure ⟨_, rfl, wpAny_pure h⟩)) fits))
    | exact wpAny_bind (wpAny_bind (m := Builtin.Tuple.tupleExact _) (wpAny_newObj_type (wpAny_pure ⟨_, rfl, wpAny_pure h⟩) fits))
end
section
variable {X : Cx}
def tRevT (K : PySem.W.Frag) (te : TE) : TE := fun σ H Q => te σ H fun x H1 => ∃ a xs, x = .ref a ∧ SqT K H1 a xs ∧ ∀ p, H1 p = none → Q (.ref p) (upd H1 p (.tup xs.reverse))
theorem pe_revT {e : Expr} {te : TE} {k : Nat} {p1 p2 p3 pos : Pos} (he : PE X e te) : PE X (.Subscript e (.Slice none none (some (.UnaryOp .USub (.Constant (.int 1) k p1) p2)) p3) pos) (tRevT X.K te) := by
  refine ⟨fun pins s σ H Q I h => ?_⟩
  refine Subscript_ (thn (he.run pins s σ H _ I h) fun v s1 ⟨x, H1, I1, r1, a, xs, ex, sq, q⟩ => ?_)
  subst ex
  cases r1
  have part : PO X (some (.UnaryOp .USub (.Constant (.int 1) k p1) p2)) (tPart (tUn (rU fun i => .int (-i)) (tC (.int 1)))) := po_some (pe_un un_neg pe_int)
  refine wpAny_Slice ?_
  rw [evalPart_none]
  refine wpAny_pure ?_
  refine wpAny_pure ?_
  refine thn (part.run pins s1 σ H1 (fun o H4 => o = some (-1) ∧ H4 = H1) I1 ⟨1, rfl, -1, rfl, rfl, rfl⟩) fun vs s4 ⟨o, H4, I4, ps, eo, e4⟩ => ?_
  subst eo e4
  have I5 : Inv X pins σ H4 { s4 with heap := s4.heap.push { cls := .type "slice", data := .fields #[.none, .none, vs] } } := I4.kept (t' := s4.toks) fun b ob q => Heap.get?_push_of_some _ q
  obtain ⟨its, r, ht, hz⟩ := I5.tuple sq
  have len := r.length
  show wpAny (model X.prog X.w) X.A (subscriptTail e (.Slice none none (some (.UnaryOp .USub (.Constant (.int 1) k p1) p2)) p3) (.ref a) (.ref s4.heap.objs.size)) (EP X pins σ Q) X.xe { s4 with heap := s4.heap.push { cls := .type "slice", data := .fields #[.none, .none, vs] } }
  refine tail_any (ops := [.ref a, .ref s4.heap.objs.size]) ht.typeIs (PyProof.Rows.slot_tuple_getitem.lookup) ?_ (by with_unfolding_all rfl)
  refine item_back ht (Heap.IsSliceOf.new _ .none .none vs) ps ?_ (by rw [List.size_toArray]; omega)
  refine ⟨.ref _, _, I5.laid (t' := s4.toks) (o := .tup xs.reverse) (fun b ob q => Heap.get?_push_of_some _ q) (Nat.le_refl _) ?_, rfl, q _ (I5.hok.fresh (Nat.le_refl _))⟩
  exact ⟨by rw [List.length_reverse]; exact hz, _, r.reverse, IsTup.new _ _⟩
end
end PC
namespace PC
open PySem PySem.Spec PyProof.Rows L2
variable {G : Glb} {X : Cx} {W : WX}
theorem ROs_at {w : Wd} {vs : List V} {xs : List T} {F : List Addr} (c : w.ROs G vs xs F) {i : Int} {t : T} (h : atI xs i = some t) : ∃ v F', atI vs i = some v ∧ w.RO G v t F' ∧ F'.Sublist F := by
  unfold atI at h ⊢
  rw [c.length]
  cases e : ixN xs.length i with
  | none =>
    rw [e] at h
    cases h
  | some j =>
    rw [e] at h
    obtain ⟨v, F', h1, h2, h3⟩ := c.get (show xs[j]? = some t from h)
    exact ⟨v, F', h1, h2, h3⟩
def rIxB (K : PySem.W.Frag) (w : World) : R2 := fun x y H Q => rIx K x y H Q ∨ rIxN w x y H Q
theorem idxT_ok (hK : X.K = G.K) (hw : X.w = G.w) : OpOk G W (rIxB X.K X.w) idxT := by
  intro w w2 σ x y v1 v2 F1 F2 Q h0 e ok r1 r2 ow
  have sq : ∀ {o : Ow} {g : Tag} {xs : List T}, nodeOf w2.st x = some (g, o, xs) → Post G W w σ (idxI xs y w2.st) Q → (∀ {a : Addr} {vs : List V}, AtF G w2.H a g vs → SqL X.K w2.H a vs ∨ SqT X.K w2.H a vs) →
      rIxB X.K X.w v1 v2 w2.H Q := fun {o g xs} q h hs => by
    clear h0
    unfold idxI at h
    split at h
    · rename_i i
      obtain ⟨rfl, rfl⟩ := RO_int r2
      cases ht : atI xs i with
      | none =>
        rw [ht] at h
        exact h.elim
      | some t =>
        rw [ht] at h
        obtain ⟨a, vs, F', rfl, ha, cs, sb⟩ := (node_of ok r1 q).read
        obtain ⟨v, F2', h1, h2, h3⟩ := ROs_at cs ht
        have hq : Q v w2.H := h v w2 F2' rfl e ok h2 (ow.sub ((h3.trans sb).trans (List.sublist_append_left _ _)))
        rcases hs ha with s | s
        · exact .inl (.inl ⟨a, vs, i, v, rfl, rfl, s, h1, hq⟩)
        · exact .inl (.inr (.inl ⟨a, vs, i, v, rfl, rfl, s, h1, hq⟩))
    · exact h.elim
  have h := h0
  unfold idxT at h
  split at h
  · rename_i z
    unfold idxS at h
    split at h
    · rename_i i
      split at h
      · rename_i hl
        obtain ⟨rfl, rfl⟩ := RO_str r1
        obtain ⟨rfl, rfl⟩ := RO_int r2
        cases hc : atI z.cps.toList i with
        | none =>
          rw [hc] at h
          exact h.elim
        | some c =>
          rw [hc] at h
          exact .inl (.inr (.inr ⟨_, _, c, rfl, rfl, lenOk_le hl, hc, Post.fin (t := .str ⟨#[c]⟩) h rfl e ok (.cl (.str _))⟩))
      · exact h.elim
    · exact h.elim
  · cases q : nodeOf w2.st x with
    | none =>
      rw [q] at h
      exact h.elim
    | some n =>
      obtain ⟨g, o, xs⟩ := n
      rw [q] at h
      cases g with
      | lst => exact sq q h fun ha => .inl (SqL.of ha)
      | scr => exact sq q h fun ha => .inl (by rw [hK]; exact ha)
      | tup => exact sq q h fun ha => .inr (SqT.of ha)
      | dic ks =>
        have h : Post G W w σ (idxD ks xs y w2.st) Q := h
        unfold idxD at h
        split at h
        · rename_i k t q2
          obtain ⟨p, vs, b, F2', rfl, d, kr, ky, q3, cs, sb⟩ := ask_of ok r2 r1 q q2
          obtain ⟨v, F3, g1, g2, g3⟩ := getD_o cs q3.symm
          exact .inr ⟨p, ks, vs, b, k, v, rfl, by rw [hw]; exact d, kr, ky, g1, h v w2 F3 rfl e ok g2 (ow.sub ((g3.trans sb).trans (List.sublist_append_left _ _)))⟩
        · exact h.elim
      | obj c fn => exact h.elim
theorem RCs_cut {w : Wd} {vs : List V} {xs : List T} (c : w.RCs G vs xs) (lo hi : Option Int) : w.RCs G (cutV vs lo hi) (cutT xs lo hi) := by
  unfold cutV cutT
  rw [c.length]
  exact (c.drop _).take _
theorem RCs_rev {w : Wd} : ∀ {vs : List V} {xs : List T}, w.RCs G vs xs → w.RCs G vs.reverse xs.reverse
  | _, _, .nil => .nil
  | _, _, .cons h t => by
    rw [List.reverse_cons, List.reverse_cons]
    exact (RCs_rev t).append (.cons h .nil)
theorem RepOs.take {H : Hp} {S : Addr → Prop} {r : List Addr} : ∀ {vs : List V} {ts : List T} {F : List Addr} (n : Nat), RepOs G H S r vs ts F → ∃ F', RepOs G H S r (vs.take n) (ts.take n) F' ∧ F'.Sublist F
  | _, _, _, 0, _ => ⟨[], .nil, List.nil_sublist _⟩
  | _, _, _, _ + 1, .nil => ⟨[], .nil, List.nil_sublist _⟩
  | _, _, _, n + 1, .cons h t => by
    obtain ⟨F', a, b⟩ := RepOs.take n t
    exact ⟨_, .cons h a, (List.Sublist.refl _).append b⟩
theorem RepOs.drop {H : Hp} {S : Addr → Prop} {r : List Addr} : ∀ {vs : List V} {ts : List T} {F : List Addr} (n : Nat), RepOs G H S r vs ts F → ∃ F', RepOs G H S r (vs.drop n) (ts.drop n) F' ∧ F'.Sublist F
  | _, _, _, 0, h => ⟨_, h, List.Sublist.refl _⟩
  | _, _, _, _ + 1, .nil => ⟨[], .nil, List.nil_sublist _⟩
  | _, _, _, n + 1, .cons h t => by
    obtain ⟨F', a, b⟩ := RepOs.drop n t
    exact ⟨_, a, b.trans (List.sublist_append_right _ _)⟩
theorem ROs_cut {w : Wd} {vs : List V} {xs : List T} {F : List Addr} (c : w.ROs G vs xs F) (lo hi : Option Int) : ∃ F', w.ROs G (cutV vs lo hi) (cutT xs lo hi) F' ∧ F'.Sublist F := by
  unfold cutV cutT
  rw [c.length]
  obtain ⟨F1, a, b⟩ := RepOs.drop (HT.sIx xs.length 0 lo) c
  obtain ⟨F2, a2, b2⟩ := RepOs.take (HT.sIx xs.length xs.length hi - HT.sIx xs.length 0 lo) a
  exact ⟨F2, a2, b2.trans b⟩
theorem cut_whole {α : Type} (xs : List α) {lo hi : Option Int} (h : HT.sIx xs.length 0 lo = 0 ∧ HT.sIx xs.length xs.length hi = xs.length) : (xs.drop (HT.sIx xs.length 0 lo)).take (HT.sIx xs.length xs.length hi - HT.sIx xs.length 0 lo) = xs := by
  rw [h.1, h.2]
  simp
def rSlB (K : PySem.W.Frag) : V → Option Int → Option Int → Hp → VK → Prop := fun x lo hi H Q => rSlS x lo hi H Q ∨ rSlL K x lo hi H Q ∨ rSlA K x lo hi H Q
theorem sl_all : SlR X (rSlB X.K) := SlR.or sl_str (SlR.or sl_list sl_tupA)
theorem slcT_ok (hK : X.K = G.K) {w w2 : Wd} {σ : L2.St} {x : T} {v : V} {F : List Addr} {Q : VK} {lo hi : Option Int} (h : Post G W w σ (slcT x lo hi w2.st) Q) (e : Ev w w2) (ok : w2.Ok G) (r : w2.RO G v x F) (ow : Own w w2 F) : rSlB X.K v lo hi w2.H Q := by
  have sq : ∀ {o : Ow} {g : Tag} {xs : List T}, nodeOf w2.st x = some (g, o, xs) → Post G W w σ (.ok (.nd .lst (copyOw o) (cutT xs lo hi)) w2.st) Q → (∀ {a : Addr} {vs : List V}, AtF G w2.H a g vs → SqL X.K w2.H a vs) → rSlB X.K v lo hi w2.H Q := fun {o g xs} q h hs => by
    have n := node_of ok r q
    by_cases c : closedOw o = true
    · rw [copy_clo c] at h
      obtain ⟨a, vs, rfl, ha, cs⟩ := n.clos c
      exact .inr (.inl ⟨a, vs, rfl, hs ha, fun p hp => h.newOwn rfl e ok hp (g := .lst) upd_same (RCs_cut cs lo hi)⟩)
    · rw [copy_opn c] at h
      obtain ⟨a, vs, F', rfl, ha, cs, sb⟩ := n.read
      obtain ⟨F2, cs2, sb2⟩ := ROs_cut cs lo hi
      exact .inr (.inl ⟨a, vs, rfl, hs ha, fun p hp => h.newOpn rfl e ok hp (g := .lst) upd_same cs2 (ow.sub (sb2.trans sb))⟩)
  unfold slcT at h
  split at h
  · rename_i o xs q
    exact sq q h fun ha => SqL.of ha
  · rename_i o xs q
    exact sq q h fun ha => by rw [hK]; exact ha
  · rename_i xs q
    obtain ⟨a, vs, rfl, ha, cs⟩ := (node_of ok r q).clos rfl
    refine .inr (.inr ⟨a, vs, rfl, SqT.of ha, fun z => ?_, fun z p hp => h.newFz rfl e ok hp (g := .tup) upd_same (RCs_cut cs lo hi)⟩)
    have z2 : cutT xs lo hi = xs := cut_whole xs (by rw [← cs.length]; exact z)
    rw [z2] at h
    exact h.fin rfl e ok (.cl (frT_of ok r q))
  · cases x with
    | str z =>
      simp only [slcS] at h
      split at h
      · rename_i hl
        obtain ⟨rfl, rfl⟩ := RO_str r
        exact .inl ⟨z, rfl, lenOk_le hl, h.fin rfl e ok (.cl (.str _))⟩
      · exact h.elim
    | _ => exact h.elim
/-! ### attributes -/
theorem zip_lookup {w : Wd} {f : Str} {t : T} : ∀ {fn : List Str} {vs : List V} {xs : List T} {F : List Addr}, w.ROs G vs xs F → (fn.zip xs).lookup f = some t → ∃ v F', (fn.zip vs).lookup f = some v ∧ w.RO G v t F' ∧ F'.Sublist F ∧ f ∈ fn
  | [], _, _, _, _, h => by simp at h
  | _ :: _, _, _, _, .nil, h => by simp at h
  | g :: fn, _, _, _, .cons h1 c, h => by
    simp only [List.zip_cons_cons, List.lookup_cons] at h ⊢
    cases q : (f == g) with
    | true =>
      rw [q] at h
      cases h
      exact ⟨_, _, rfl, h1, List.sublist_append_left _ _, by rw [beq_iff_eq.mp q]; exact List.mem_cons_self⟩
    | false =>
      rw [q] at h
      obtain ⟨v, F', a, b, d, m⟩ := zip_lookup c h
      exact ⟨v, F', a, b, d.trans (List.sublist_append_right _ _), List.mem_cons_of_mem _ m⟩
theorem fldT_ok (hK : X.K = G.K) {w w2 : Wd} {σ : L2.St} {x : T} {v : V} {f : Str} {F : List Addr} {Q : VK} (h : Post G W w σ (fldT x f w2.st) Q) (e : Ev w w2) (ok : w2.Ok G) (r : w2.RO G v x F) (ow : Own w w2 F) :
    ∃ a C dx fs u, v = .ref a ∧ w2.H a = some (.ins C dx fs) ∧ Cls X.K C ∧ NoAttr X.K C f ∧ fs.lookup f = some u ∧ Q u w2.H := by
  unfold fldT at h
  split at h
  · rename_i c fn o xs q
    obtain ⟨a, vs, F', rfl, ⟨⟨hc, hn⟩, hl, dx, ha⟩, cs, sb⟩ := (node_of ok r q).read
    cases q2 : (fn.zip xs).lookup f with
    | none =>
      rw [q2] at h
      exact h.elim
    | some t =>
      rw [q2] at h
      obtain ⟨u, F2, h1, h2, h3, h4⟩ := zip_lookup cs q2
      exact ⟨a, G.cls c, dx, _, u, rfl, ha, by rw [hK]; exact hc, by rw [hK]; exact hn f h4, h1, h u w2 F2 rfl e ok h2 (ow.sub (h3.trans sb))⟩
  · exact h.elim
/-! ### isinstance -/
/-- a value's type, a dict's too -/
inductive TyD (K : PySem.W.Frag) (w : World) (H : Hp) : V → Value → Prop where
  | base {x : V} {t : Value} (h : TyOf K H x t) : TyD K w H x t
  | dic {a : Addr} {ks : List NestedKey} {vs : List V} (h : DctAt w H a ks vs) : TyD K w H (.ref a) (.type "dict")
theorem kit_D {pins : List (Addr × Obj)} {σ : L2.St} {H : Hp} {s : Shared} {x : V} {u t : Value} (I : Inv X pins σ H s) (rx : RelV x u) (ty : TyD X.K X.w H x t) : ∃ P : Heap → Prop, PySem.W.KitX X.K u t P ∧ P s.heap ∧ u ≠ .builtin "__main__.__loader__#opaque" := by
  cases ty with
  | base h => exact kit_of I rx (.base h)
  | dic d =>
    obtain rfl : u = Value.ref _ := rx
    exact ⟨_, PySem.W.kitx_dict, (dct_ty I d).1, fun z => nomatch z⟩
def rIsiD (K : PySem.W.Frag) (w : World) : List V → Hp → VK → Prop := fun xs H Q => ∃ (x c : V) (t u : Value) (b : Bool), xs = [x, c] ∧ ClsV c u ∧ TyD K w H x t ∧ PySem.W.kitOne K t u = some b ∧ Q (.bl b) H
def rIsiTD (K : PySem.W.Frag) (w : World) : List V → Hp → VK → Prop := fun xs H Q => ∃ (x : V) (tp : Addr) (cs : List V) (t : Value) (us : List Value) (b : Bool), xs = [x, .ref tp] ∧ H tp = some (.tup cs) ∧ Paired ClsV cs us ∧ TyD K w H x t ∧ PySem.W.kitAny K t us = some b ∧ Q (.bl b) H
theorem call_isiD : CallR X (.builtin "isinstance") (rIsiD X.K X.w) := by
  intro pins s σ H xs us Q I r h
  obtain ⟨x, c, t, u, b, rfl, k, ty, e, q⟩ := h
  obtain ⟨u1, u2, rfl, ra, rb⟩ := vals2 r
  obtain rfl := k.eq rb
  obtain ⟨P, Z, p, hx⟩ := kit_D I ra ty
  exact PySem.W.kia_one Z I.kIn p e hx fun tk => ⟨.bl b, H, I.tok tk, rfl, q⟩
theorem call_isiTD : CallR X (.builtin "isinstance") (rIsiTD X.K X.w) := by
  intro pins s σ H xs us Q I r h
  obtain ⟨x, tp, cs, t, ws, b, rfl, hT, k, ty, e, q⟩ := h
  obtain ⟨u1, u2, rfl, ra, rb⟩ := vals2 r
  obtain rfl : u2 = Value.ref tp := rb
  obtain ⟨P, Z, p, hx⟩ := kit_D I ra ty
  obtain ⟨_, its, rv, ⟨oc, od, dt, sl⟩, h1, h2, n, h3⟩ := (show ObjOk X.prog X.w H s.heap tp (.tup cs) from I.hok tp _ hT)
  obtain rfl := ClsV.all k rv
  obtain rfl : oc = Value.type "tuple" := h2
  obtain rfl : dt = Data.seq its.toArray n := h3
  exact PySem.W.kia_tup Z I.kIn p h1 e hx fun tk => ⟨.bl b, H, I.tok tk, rfl, q⟩
theorem ty_of {w : Wd} (ok : w.Ok G) {v : V} {t : T} {F : List Addr} {b : BT} (r : w.RO G v t F) (h : btOf w.st t = some b) : TyD G.K G.w w.H v (.type b.nm) := by
  have nd : ∀ {t : T} {F : List Addr}, w.RO G v t F → (match nodeOf w.st t with
    | some (.lst, _, _) => some BT.list
    | some (.tup, _, _) => some BT.tuple
    | some (.dic _, _, _) => some BT.dict
    | _ => none) = some b → TyD G.K G.w w.H v (.type b.nm) := fun {t F} r h => by
    split at h
    · rename_i q
      cases h
      obtain ⟨a, vs, F', rfl, ha, cs, sb⟩ := (node_of ok r q).read
      exact .base (.lst ha)
    · rename_i q
      cases h
      obtain ⟨a, vs, F', rfl, ha, cs, sb⟩ := (node_of ok r q).read
      exact .base (.tup ha)
    · rename_i q
      cases h
      obtain ⟨a, vs, F', rfl, ha, cs, sb⟩ := (node_of ok r q).read
      exact .dic ha
    · cases h
  cases t with
  | non => cases h; obtain ⟨rfl, _⟩ := RO_non r; exact .base .non
  | bl k => cases h; obtain ⟨rfl, _⟩ := RO_bl r; exact .base (.bl _)
  | int k => cases h; obtain ⟨rfl, _⟩ := RO_int r; exact .base (.int _)
  | str k => cases h; obtain ⟨rfl, _⟩ := RO_str r; exact .base (.str _)
  | exc k => exact nd r h
  | ref k => exact nd r h
  | nd g o xs => exact nd r h
theorem kit_bt {K : PySem.W.Frag} (a b : BT) : PySem.W.kitOne K (.type a.nm) (.type b.nm) = some (isB a b) := by
  apply kit_ty
  cases a <;> cases b <;> decide +kernel
/-! ### built-ins -/
/-- what a built-in's rule asks is what the evaluator's end wants -/
def BiOk (G : Glb) (W : WX) (r : List V → Hp → VK → Prop) (f : List T → Store → R T) : Prop :=
  ∀ (w w2 : Wd) (σ : L2.St) (xs : List T) (vs : List V) (F : List Addr) (Q : VK), Post G W w σ (f xs w2.st) Q → Ev w w2 → w2.Ok G → w2.ROs G vs xs F → Own w w2 F → r vs w2.H Q
theorem ROs1 {w : Wd} {vs : List V} {x : T} {F : List Addr} (h : w.ROs G vs [x] F) : ∃ v, vs = [v] ∧ w.RO G v x F := by
  cases h with
  | cons h c =>
    cases c
    exact ⟨_, rfl, by rw [List.append_nil]; exact h⟩
theorem ROs2 {w : Wd} {vs : List V} {x y : T} {F : List Addr} (h : w.ROs G vs [x, y] F) : ∃ v u F1 F2, vs = [v, u] ∧ w.RO G v x F1 ∧ w.RO G u y F2 ∧ F = F1 ++ F2 := by
  cases h with
  | cons h c =>
    obtain ⟨u, rfl, h2⟩ := ROs1 c
    exact ⟨_, _, _, _, rfl, h, h2, rfl⟩
theorem bools_of {w : Wd} : ∀ {xs : List T} {vs : List V} {F : List Addr} {bs : List Bool}, w.ROs G vs xs F → boolsOf xs = some bs → vs = bs.map V.bl
  | [], _, _, _, .nil, h => by
    simp only [boolsOf, Option.some.injEq] at h
    subst h
    rfl
  | .bl b :: xs, _, _, bs, .cons h1 c, h => by
    simp only [boolsOf, Option.map_eq_some_iff] at h
    obtain ⟨bs', e, rfl⟩ := h
    obtain ⟨rfl, _⟩ := RO_bl h1
    rw [bools_of c e]
    rfl
  | .non :: _, _, _, _, _, h => by simp only [boolsOf] at h; cases h
  | .int _ :: _, _, _, _, _, h => by simp only [boolsOf] at h; cases h
  | .str _ :: _, _, _, _, _, h => by simp only [boolsOf] at h; cases h
  | .exc _ :: _, _, _, _, _, h => by simp only [boolsOf] at h; cases h
  | .ref _ :: _, _, _, _, _, h => by simp only [boolsOf] at h; cases h
  | .nd _ _ _ :: _, _, _, _, _, h => by simp only [boolsOf] at h; cases h
theorem ints_of {w : Wd} : ∀ {xs : List T} {vs : List V} {F : List Addr} {bs : List Int}, w.ROs G vs xs F → intsOf xs = some bs → vs = bs.map V.int
  | [], _, _, _, .nil, h => by
    simp only [intsOf, Option.some.injEq] at h
    subst h
    rfl
  | .int b :: xs, _, _, bs, .cons h1 c, h => by
    simp only [intsOf, Option.map_eq_some_iff] at h
    obtain ⟨bs', e, rfl⟩ := h
    obtain ⟨rfl, _⟩ := RO_int h1
    rw [ints_of c e]
    rfl
  | .non :: _, _, _, _, _, h => by simp only [intsOf] at h; cases h
  | .bl _ :: _, _, _, _, _, h => by simp only [intsOf] at h; cases h
  | .str _ :: _, _, _, _, _, h => by simp only [intsOf] at h; cases h
  | .exc _ :: _, _, _, _, _, h => by simp only [intsOf] at h; cases h
  | .ref _ :: _, _, _, _, _, h => by simp only [intsOf] at h; cases h
  | .nd _ _ _ :: _, _, _, _, _, h => by simp only [intsOf] at h; cases h
theorem lst_of {w : Wd} (ok : w.Ok G) {x : T} {v : V} {F : List Addr} {xs : List T} (r : w.RO G v x F) (h : lstOf w.st x = some xs) : ∃ a vs F', v = .ref a ∧ w.H a = some (.lst vs) ∧ w.ROs G vs xs F' ∧ F'.Sublist F := by
  unfold lstOf at h
  split at h
  · rename_i o ys q
    cases h
    obtain ⟨a, vs, F', rfl, ha, cs, sb⟩ := (node_of ok r q).read
    exact ⟨a, vs, F', rfl, ha, cs, sb⟩
  · cases h
/-- the built-in's value, its name -/
def Bi.fn : Bi → Option (Value × String)
  | .len => some (.builtin "len", "len")
  | .int => some (.type "int", "int")
  | .str => some (.type "str", "str")
  | .abs => some (.builtin "abs", "abs")
  | .max2 => some (.builtin "max", "max")
  | .min2 => some (.builtin "min", "min")
  | .maxL => some (.builtin "max", "max")
  | .minL => some (.builtin "min", "min")
  | .sum => some (.builtin "sum", "sum")
  | .all => some (.builtin "all", "all")
  | .any => some (.builtin "any", "any")
  | .repr => some (.builtin "repr", "repr")
  | .list => some (.type "list", "list")
  | .tuple => some (.type "tuple", "tuple")
  | .sorted => some (.builtin "sorted", "sorted")
  | .divmod => some (.builtin "divmod", "divmod")
  | .dict => some (.type "dict", "dict")
  | _ => none
theorem on1_ok {r : List V → Hp → VK → Prop} {f : T → Store → R T} (k : ∀ (w w2 : Wd) (σ : L2.St) (x : T) (v : V) (F : List Addr) (Q : VK), Post G W w σ (f x w2.st) Q → Ev w w2 → w2.Ok G → w2.RO G v x F → Own w w2 F → r [v] w2.H Q) : BiOk G W r (on1 f) := by
  intro w w2 σ xs vs F Q h e ok c ow
  unfold on1 at h
  split at h
  · obtain ⟨v, rfl, h1⟩ := ROs1 c
    exact k w w2 σ _ v F Q h e ok h1 ow
  · exact h.elim
theorem on2_ok {r : List V → Hp → VK → Prop} {f : T → T → Store → R T} (k : ∀ (w w2 : Wd) (σ : L2.St) (x y : T) (v u : V) (F1 F2 : List Addr) (Q : VK), Post G W w σ (f x y w2.st) Q → Ev w w2 → w2.Ok G → w2.RO G v x F1 → w2.RO G u y F2 → Own w w2 (F1 ++ F2) → r [v, u] w2.H Q) : BiOk G W r (on2 f) := by
  intro w w2 σ xs vs F Q h e ok c ow
  unfold on2 at h
  split at h
  · obtain ⟨v, u, F1, F2, rfl, h1, h2, rfl⟩ := ROs2 c
    exact k w w2 σ _ _ v u F1 F2 Q h e ok h1 h2 ow
  · exact h.elim
theorem len_ok (hK : X.K = G.K) (hw : X.w = G.w) : BiOk G W (fun xs H Q => (∃ x n, xs = [x] ∧ LenV X.K x H n ∧ Q (.int n) H) ∨ ∃ a ks vs, xs = [.ref a] ∧ DctAt X.w H a ks vs ∧ Q (.int ks.length) H) (on1 lenT) := by
  refine on1_ok fun w w2 σ x v F Q h e ok r ow => ?_
  unfold lenT at h
  split at h
  · split at h
    · rename_i z hl
      obtain ⟨rfl, rfl⟩ := RO_str r
      exact .inl ⟨_, _, rfl, ⟨lenOk_le hl, rfl⟩, h.fin rfl e ok (.cl (.int _))⟩
    · exact h.elim
  · cases q : nodeOf w2.st x with
    | none =>
      rw [q] at h
      exact h.elim
    | some n =>
      obtain ⟨g, o, xs⟩ := n
      rw [q] at h
      obtain ⟨a, vs, F', rfl, ha, cs, sb⟩ := (node_of ok r q).read
      cases g with
      | lst => exact .inl ⟨_, _, rfl, .inl ⟨vs, SqL.of ha, rfl⟩, by rw [cs.length]; exact Post.fin (t := .int xs.length) h rfl e ok (.cl (.int _))⟩
      | scr => exact .inl ⟨_, _, rfl, .inl ⟨vs, by rw [hK]; exact ha, rfl⟩, by rw [cs.length]; exact Post.fin (t := .int xs.length) h rfl e ok (.cl (.int _))⟩
      | tup => exact .inl ⟨_, _, rfl, .inr ⟨vs, SqT.of ha, rfl⟩, by rw [cs.length]; exact Post.fin (t := .int xs.length) h rfl e ok (.cl (.int _))⟩
      | dic ks => exact .inr ⟨a, ks, vs, rfl, by rw [hw]; exact ha, Post.fin (t := .int ks.length) h rfl e ok (.cl (.int _))⟩
      | obj c fn => exact h.elim
theorem int_ok : BiOk G W (fun xs H Q => ((∃ i, xs = [.int i] ∧ Q (.int i) H) ∨ ∃ k, xs = [.bl k] ∧ Q (.int (if k then 1 else 0)) H) ∨ ∃ a n, xs = [.str a] ∧ PySem.intText? a = some n ∧ a.length ≤ 640 ∧ Q (.int n) H) (on1 intT) := by
  refine on1_ok fun w w2 σ x v F Q h e ok r ow => ?_
  unfold intT at h
  split at h
  · obtain ⟨rfl, rfl⟩ := RO_int r
    exact .inl (.inl ⟨_, rfl, h.fin rfl e ok (.cl (.int _))⟩)
  · obtain ⟨rfl, rfl⟩ := RO_bl r
    exact .inl (.inr ⟨_, rfl, h.fin rfl e ok (.cl (.int _))⟩)
  · split at h
    · rename_i n q
      split at h
      · rename_i hl
        obtain ⟨rfl, rfl⟩ := RO_str r
        exact .inr ⟨_, n, rfl, q, hl, h.fin rfl e ok (.cl (.int _))⟩
      · exact h.elim
    · exact h.elim
  · exact h.elim
theorem str_ok : BiOk G W (fun xs H Q => ∃ i, xs = [.int i] ∧ i.natAbs.log2 < 1920 ∧ Q (.str (toString i)) H) (on1 strT) := by
  refine on1_ok fun w w2 σ x v F Q h e ok r ow => ?_
  unfold strT at h
  split at h
  · split at h
    · rename_i hl
      obtain ⟨rfl, rfl⟩ := RO_int r
      exact ⟨_, rfl, hl, h.fin rfl e ok (.cl (.str _))⟩
    · exact h.elim
  · exact h.elim
theorem abs_ok : BiOk G W (fun xs H Q => ∃ i, xs = [.int i] ∧ Q (.int (if i < 0 then -i else i)) H) (on1 absT) := by
  refine on1_ok fun w w2 σ x v F Q h e ok r ow => ?_
  unfold absT at h
  split at h
  · obtain ⟨rfl, rfl⟩ := RO_int r
    exact ⟨_, rfl, h.fin rfl e ok (.cl (.int _))⟩
  · exact h.elim
def rMaxP (K : PySem.W.Frag) : List V → Hp → VK → Prop := fun xs H Q => ∃ (x y : V) (d e : PyData), xs = [x, y] ∧ Dp K H x d ∧ Dp K H y e ∧ alkB d e = true ∧ (d ≠ .none ∧ e ≠ .none) ∧ Q (if PySem.W.dataLt d e = true then y else x) H
theorem cr_maxP (hc : X.calm = true) (hu : X.A.units + 70 < cLine) : CallR X (.builtin "max") (rMaxP X.K) := by
  intro pins s σ H vs us Q I r h
  obtain ⟨x, y, d, e, rfl, p1, p2, al, ⟨n1, n2⟩, q⟩ := h
  obtain ⟨u1, u2, rfl, r1, r2⟩ : ∃ u1 u2, us = [u1, u2] ∧ RelV x u1 ∧ RelV y u2 := by
    cases r with
    | cons r1 r => cases r with
      | cons r2 r => cases r; exact ⟨_, _, rfl, r1, r2⟩
  obtain ⟨as, d1⟩ := Dp.reads I d x u1 p1 r1
  obtain ⟨bs, d2⟩ := Dp.reads I e y u2 p2 r2
  simp only [alkB, Bool.and_eq_true, decide_eq_true_eq] at al
  obtain ⟨⟨⟨a1, a2⟩, a3, a4⟩, a5, a6⟩ := al
  refine max_twoD (I.ok.hd hc) (.cons d1 (.cons d2 .nil)) ⟨fun x hx y hy => ?_, fun x hx => ?_⟩ ?_ fun h' tk kp => ?_
  · simp only [List.mem_cons, List.not_mem_nil, or_false] at hx hy
    rcases hx with rfl | rfl <;> rcases hy with rfl | rfl <;> assumption
  · simp only [List.mem_cons, List.not_mem_nil, or_false] at hx
    rcases hx with rfl | rfl <;> assumption
  · simp only [PyData.depthAll]
    omega
  · refine ⟨_, H, I.kept kp, ?_, q⟩
    split <;> assumption
theorem max_ok (hK : X.K = G.K) : BiOk G W (fun xs H Q => (∃ i j, xs = [.int i, .int j] ∧ Q (.int (if j > i then j else i)) H) ∨ rMaxP X.K xs H Q) (on2 maxT) := by
  refine on2_ok fun w w2 σ x y v u F1 F2 Q h e ok r1 r2 ow => ?_
  unfold maxT at h
  split at h
  · obtain ⟨rfl, rfl⟩ := RO_int r1
    obtain ⟨rfl, rfl⟩ := RO_int r2
    exact .inl ⟨_, _, rfl, h.fin rfl e ok (.cl (.int _))⟩
  · rename_i xs ys
    unfold maxP at h
    split at h
    · rename_i ds es q1 q2
      split at h
      · rename_i al
        have t1 : toD (fun _ => none) (.nd .tup .fz xs) = some (.tuple ds) := by simp only [toD, q1]; rfl
        have t2 : toD (fun _ => none) (.nd .tup .fz ys) = some (.tuple es) := by simp only [toD, q2]; rfl
        have p1 := dp_c (frT_of ok r1 rfl) t1
        have p2 := dp_c (frT_of ok r2 rfl) t2
        refine .inr ⟨v, u, .tuple ds, .tuple es, rfl, by rw [hK]; exact p1, by rw [hK]; exact p2, al, ⟨by simp, by simp⟩, ?_⟩
        by_cases lt : PySem.W.dataLt (.tuple ds) (.tuple es) = true
        · rw [if_pos lt] at h ⊢
          exact h.fin rfl e ok (.cl (frT_of ok r2 rfl))
        · rw [if_neg lt] at h ⊢
          exact h.fin rfl e ok (.cl (frT_of ok r1 rfl))
      · exact h.elim
    · exact h.elim
  · exact h.elim
theorem min_ok : BiOk G W (fun xs H Q => ∃ i j, xs = [.int i, .int j] ∧ Q (.int (if j < i then j else i)) H) (on2 minT) := by
  refine on2_ok fun w w2 σ x y v u F1 F2 Q h e ok r1 r2 ow => ?_
  unfold minT at h
  split at h
  · obtain ⟨rfl, rfl⟩ := RO_int r1
    obtain ⟨rfl, rfl⟩ := RO_int r2
    exact ⟨_, _, rfl, h.fin rfl e ok (.cl (.int _))⟩
  · exact h.elim
theorem lsq_of {w : Wd} (ok : w.Ok G) {x : T} {v : V} {F : List Addr} {xs : List T} (r : w.RO G v x F) (h : lsqOf w.st x = some xs) : ∃ a vs F', v = .ref a ∧ (w.H a = some (.lst vs) ∨ w.H a = some (.tup vs)) ∧ w.ROs G vs xs F' ∧ F'.Sublist F := by
  unfold lsqOf at h
  split at h
  · rename_i o ys q
    cases h
    obtain ⟨a, vs, F', rfl, ha, cs, sb⟩ := (node_of ok r q).read
    exact ⟨a, vs, F', rfl, .inl ha, cs, sb⟩
  · rename_i o ys q
    cases h
    obtain ⟨a, vs, F', rfl, ha, cs, sb⟩ := (node_of ok r q).read
    exact ⟨a, vs, F', rfl, .inr ha, cs, sb⟩
  · cases h
theorem sum_ok : BiOk G W (rSumX X.K) (on1 sumT) := by
  refine on1_ok fun w w2 σ x v F Q h e ok r ow => ?_
  unfold sumT at h
  cases q : lsqOf w2.st x with
  | none => rw [q] at h; exact h.elim
  | some xs =>
    cases q2 : intsOf xs with
    | none =>
      simp only [q, q2, Option.bind_some, Option.map_none] at h
      exact h.elim
    | some ns =>
      simp only [q, q2, Option.bind_some, Option.map_some] at h
      obtain ⟨a, vs, F', rfl, ha, cs, sb⟩ := lsq_of ok r q
      rw [ints_of cs q2] at ha
      rcases ha with ha | ha
      · exact .inl ⟨a, ns, rfl, SqL.of ha, Post.fin (t := .int ns.sum) h rfl e ok (.cl (.int _))⟩
      · exact .inr ⟨a, ns, rfl, SqT.of ha, Post.fin (t := .int ns.sum) h rfl e ok (.cl (.int _))⟩
theorem foldMax_le : ∀ (xs : List Int) (a : Int), a ≤ xs.foldl (fun a b => if a < b then b else a) a ∧ ∀ y ∈ xs, y ≤ xs.foldl (fun a b => if a < b then b else a) a
  | [], a => ⟨Int.le_refl _, by simp⟩
  | x :: xs, a => by
    obtain ⟨h1, h2⟩ := foldMax_le xs (if a < x then x else a)
    simp only [List.foldl_cons]
    refine ⟨Int.le_trans ?_ h1, fun y hy => ?_⟩
    · split <;> omega
    · rcases List.mem_cons.mp hy with rfl | hy
      · exact Int.le_trans (by split <;> omega) h1
      · exact h2 y hy
theorem foldMax_mem : ∀ (xs : List Int) (a : Int), xs.foldl (fun a b => if a < b then b else a) a = a ∨ xs.foldl (fun a b => if a < b then b else a) a ∈ xs
  | [], a => .inl rfl
  | x :: xs, a => by
    simp only [List.foldl_cons, List.mem_cons]
    rcases foldMax_mem xs (if a < x then x else a) with h | h
    · rw [h]
      split
      · exact .inr (.inl rfl)
      · exact .inl rfl
    · exact .inr (.inr h)
theorem foldMin_le : ∀ (xs : List Int) (a : Int), xs.foldl (fun a b => if b < a then b else a) a ≤ a ∧ ∀ y ∈ xs, xs.foldl (fun a b => if b < a then b else a) a ≤ y
  | [], a => ⟨Int.le_refl _, by simp⟩
  | x :: xs, a => by
    obtain ⟨h1, h2⟩ := foldMin_le xs (if x < a then x else a)
    simp only [List.foldl_cons]
    refine ⟨Int.le_trans h1 ?_, fun y hy => ?_⟩
    · split <;> omega
    · rcases List.mem_cons.mp hy with rfl | hy
      · exact Int.le_trans h1 (by split <;> omega)
      · exact h2 y hy
theorem foldMin_mem : ∀ (xs : List Int) (a : Int), xs.foldl (fun a b => if b < a then b else a) a = a ∨ xs.foldl (fun a b => if b < a then b else a) a ∈ xs
  | [], a => .inl rfl
  | x :: xs, a => by
    simp only [List.foldl_cons, List.mem_cons]
    rcases foldMin_mem xs (if x < a then x else a) with h | h
    · rw [h]
      split
      · exact .inr (.inl rfl)
      · exact .inl rfl
    · exact .inr (.inr h)
theorem maxI_spec {ns : List Int} (h : 0 < ns.length) : maxI ns ∈ ns ∧ ∀ y ∈ ns, y ≤ maxI ns := by
  cases ns with
  | nil => cases h
  | cons x xs =>
    obtain ⟨h1, h2⟩ := foldMax_le xs x
    refine ⟨?_, fun y hy => ?_⟩
    · rcases foldMax_mem xs x with h | h
      · exact List.mem_cons.mpr (.inl h)
      · exact List.mem_cons.mpr (.inr h)
    · rcases List.mem_cons.mp hy with rfl | hy
      · exact h1
      · exact h2 y hy
theorem minI_spec {ns : List Int} (h : 0 < ns.length) : minI ns ∈ ns ∧ ∀ y ∈ ns, minI ns ≤ y := by
  cases ns with
  | nil => cases h
  | cons x xs =>
    obtain ⟨h1, h2⟩ := foldMin_le xs x
    refine ⟨?_, fun y hy => ?_⟩
    · rcases foldMin_mem xs x with h | h
      · exact List.mem_cons.mpr (.inl h)
      · exact List.mem_cons.mpr (.inr h)
    · rcases List.mem_cons.mp hy with rfl | hy
      · exact h1
      · exact h2 y hy
theorem ints_at {w : Wd} (ok : w.Ok G) {x : T} {v : V} {F : List Addr} {ns : List Int} (r : w.RO G v x F) (q : (lstOf w.st x).bind intsOf = some ns) : ∃ a, v = .ref a ∧ w.H a = some (.lst (ns.map V.int)) := by
  cases q1 : lstOf w.st x with
  | none => rw [q1] at q; cases q
  | some xs =>
    rw [q1, Option.bind_some] at q
    obtain ⟨a, vs, F', rfl, ha, cs, sb⟩ := lst_of ok r q1
    rw [ints_of cs q] at ha
    exact ⟨a, rfl, ha⟩
theorem maxL_ok : BiOk G W (rMax X.K) (on1 maxLT) := by
  refine on1_ok fun w w2 σ x v F Q h e ok r ow => ?_
  unfold maxLT at h
  split at h
  · rename_i ns q
    unfold maxLI at h
    split at h
    · rename_i hn
      obtain ⟨a, rfl, ha⟩ := ints_at ok r q
      refine ⟨a, ns, rfl, SqL.of ha, hn, fun m h1 h2 => ?_⟩
      obtain ⟨m1, m2⟩ := maxI_spec hn
      have : m = maxI ns := Int.le_antisymm (m2 m h1) (h2 _ m1)
      rw [this]
      exact Post.fin (t := .int (maxI ns)) h rfl e ok (.cl (.int _))
    · exact h.elim
  · exact h.elim
theorem all_ok : BiOk G W (rAll X.K) (on1 allT) := by
  refine on1_ok fun w w2 σ x v F Q h e ok r ow => ?_
  unfold allT at h
  cases q : lstOf w2.st x with
  | none => rw [q] at h; exact h.elim
  | some xs =>
    cases q2 : boolsOf xs with
    | none =>
      simp only [q, q2, Option.bind_some, Option.map_none] at h
      exact h.elim
    | some ns =>
      simp only [q, q2, Option.bind_some, Option.map_some] at h
      obtain ⟨a, vs, F', rfl, ha, cs, sb⟩ := lst_of ok r q
      rw [bools_of cs q2] at ha
      exact ⟨a, ns, rfl, SqL.of ha, Post.fin (t := .bl (ns.all id)) h rfl e ok (.cl (.bl _))⟩
theorem any_ok : BiOk G W (rAny X.K) (on1 anyT) := by
  refine on1_ok fun w w2 σ x v F Q h e ok r ow => ?_
  unfold anyT at h
  cases q : lstOf w2.st x with
  | none => rw [q] at h; exact h.elim
  | some xs =>
    cases q2 : boolsOf xs with
    | none =>
      simp only [q, q2, Option.bind_some, Option.map_none] at h
      exact h.elim
    | some ns =>
      simp only [q, q2, Option.bind_some, Option.map_some] at h
      obtain ⟨a, vs, F', rfl, ha, cs, sb⟩ := lst_of ok r q
      rw [bools_of cs q2] at ha
      exact ⟨a, ns, rfl, SqL.of ha, Post.fin (t := .bl (ns.any id)) h rfl e ok (.cl (.bl _))⟩
theorem list_ok (hK : X.K = G.K) (hw : X.w = G.w) : BiOk G W (fun xs H Q => (∃ p ys, xs = [.ref p] ∧ (SqL X.K H p ys ∨ SqT X.K H p ys) ∧ ∀ l, H l = none → Q (.ref l) (upd H l (.lst ys))) ∨ ∃ a ks vs, xs = [.ref a] ∧ DctAt X.w H a ks vs ∧ ∀ p, H p = none → Q (.ref p) (upd H p (.lst (keysD vs)))) (on1 listT) := by
  refine on1_ok fun w w2 σ x v F Q h e ok r ow => ?_
  have sq : ∀ {o : Ow} {g : Tag} {xs : List T}, nodeOf w2.st x = some (g, o, xs) → Post G W w σ (.ok (.nd .lst (copyOw o) xs) w2.st) Q → (∀ {a : Addr} {vs : List V}, AtF G w2.H a g vs → SqL X.K w2.H a vs ∨ SqT X.K w2.H a vs) →
      ∃ p ys, [v] = [.ref p] ∧ (SqL X.K w2.H p ys ∨ SqT X.K w2.H p ys) ∧ ∀ l, w2.H l = none → Q (.ref l) (upd w2.H l (.lst ys)) := fun {o g xs} q h hs => by
    have n := node_of ok r q
    by_cases c : closedOw o = true
    · rw [copy_clo c] at h
      obtain ⟨a, vs, rfl, ha, cs⟩ := n.clos c
      exact ⟨a, vs, rfl, hs ha, fun p hp => h.newOwn rfl e ok hp (g := .lst) upd_same cs⟩
    · rw [copy_opn c] at h
      obtain ⟨a, vs, F', rfl, ha, cs, sb⟩ := n.read
      exact ⟨a, vs, rfl, hs ha, fun p hp => h.newOpn rfl e ok hp (g := .lst) upd_same cs (ow.sub sb)⟩
  unfold listT at h
  split at h
  · rename_i o xs q
    exact .inl <| sq q h fun ha => .inl (SqL.of ha)
  · rename_i o xs q
    exact .inl <| sq q h fun ha => .inl (by rw [hK]; exact ha)
  · rename_i o xs q
    exact .inl <| sq q h fun ha => .inr (SqT.of ha)
  · rename_i ks o xs q
    have go : ∀ {bb : Bool} {kk : List NestedKey}, keysT bb xs = some kk → Post G W w σ (.ok (.nd .lst .own (keysD xs)) w2.st) Q → ∃ a ks vs, [v] = [V.ref a] ∧ DctAt X.w w2.H a ks vs ∧ ∀ p, w2.H p = none → Q (.ref p) (upd w2.H p (.lst (keysD vs))) := fun {bb kk} ek h => by
      obtain ⟨a, vs, F', rfl, ha, cs, sb⟩ := (node_of ok r q).read
      exact ⟨a, ks, vs, rfl, by rw [hw]; exact ha, fun p hp => h.newOwn rfl e ok hp (g := .lst) upd_same (keysD_o cs ek)⟩
    split at h
    · rename_i ek
      exact .inr (go ek h)
    · split at h
      · rename_i ek
        exact .inr (go ek h)
      · exact h.elim
  · exact h.elim
theorem tuple_ok : BiOk G W (fun xs H Q => ∃ p ys, xs = [.ref p] ∧ ((SqL X.K H p ys ∧ ∀ l, H l = none → Q (.ref l) (upd H l (.tup ys))) ∨ (SqT X.K H p ys ∧ Q (.ref p) H))) (on1 tupleT) := by
  refine on1_ok fun w w2 σ x v F Q h e ok r ow => ?_
  unfold tupleT at h
  split at h
  · rename_i o xs q
    split at h
    · rename_i c
      obtain ⟨a, vs, rfl, ha, cs⟩ := (node_of ok r q).clos c
      exact ⟨a, vs, rfl, .inl ⟨SqL.of ha, fun p hp => h.newFz rfl e ok hp (g := .tup) upd_same cs⟩⟩
    · exact h.elim
  · rename_i xs q
    obtain ⟨a, vs, rfl, ha, cs⟩ := (node_of ok r q).clos rfl
    exact ⟨a, vs, rfl, .inr ⟨SqT.of ha, h.fin rfl e ok (.cl (frT_of ok r q))⟩⟩
  · exact h.elim
/-! ### sorted -/
def rSortD (K : PySem.W.Frag) : List V → Hp → VK → Prop := fun vs H Q => ∃ (a : Addr) (bs : List (V × T × PyData)), vs = [V.ref a] ∧ SqL K H a (bs.map (·.1)) ∧ (∀ b ∈ bs, Dp K H b.1 b.2.2) ∧ PySem.W.AllAlike (bs.map (·.2.2)) ∧ PySem.W.Sortable (bs.map (·.2.2)) ∧ bs.length ≤ sizeLine ∧ (∀ b ∈ bs, b.2.2.depth ≤ 64) ∧
  ∀ p, H p = none → Q (.ref p) (upd H p (.lst ((bs.mergeSort (PySem.W.dataLe false (·.2.2))).map (·.1))))
theorem each_of_vals : ∀ {bs : List (V × T × PyData)} {us : List Value}, Vals (bs.map (·.1)) us → PySem.W.EachIs (fun u (b : V × T × PyData) => RelV b.1 u) us bs
  | [], _, h => by cases h; exact .nil
  | b :: bs, _, h => by
    cases h with
    | cons r t => exact .cons r (each_of_vals t)
theorem vals_of_each : ∀ {bs : List (V × T × PyData)} {us : List Value}, PySem.W.EachIs (fun u (b : V × T × PyData) => RelV b.1 u) us bs → Vals (bs.map (·.1)) us
  | _, _, .nil => .nil
  | _, _, .cons r t => .cons r (vals_of_each t)
theorem cr_sortD (hu : X.A.units + 70 < cLine) : CallR X (.builtin "sorted") (rSortD X.K) := by
  intro pins s σ H vs us Q I r h
  obtain ⟨a, bs, rfl, hs, hd, h1, h2, h3, h4, q⟩ := h
  obtain ⟨its, rv, hl, hz⟩ := I.list hs
  rw [Vals.ref1 r]
  have e := each_of_vals rv
  have er : PySem.W.EachIs (fun v (b : V × T × PyData) => ∃ as, Reads s.heap v b.2.2 as) its bs := (PySem.W.each_mem e).mono fun u b ⟨r1, m⟩ => Dp.reads I b.2.2 b.1 u (hd b m) r1
  refine PySem.W.sorted_data (R := fun u (b : V × T × PyData) => RelV b.1 u) (enc := fun b : V × T × PyData => b.2.2) hl.isList e er h1 h2 h3 (fun b hb => by have := h4 b hb; omega) fun out ho hr => ?_
  obtain ⟨ep, he'⟩ := PyProof.Rows.sortedAll_at s.heap its out.toArray
  have hlen : ((bs.mergeSort (PySem.W.dataLe false (·.2.2))).map (·.1)).length ≤ sizeLine := by
    rw [List.length_map, List.length_mergeSort]; exact h3
  exact ⟨.ref _, upd H (s.heap.objs.size + 1) (.lst ((bs.mergeSort (PySem.W.dataLe false (·.2.2))).map (·.1))), I.laid (t' := s.toks) (fun _ _ => PyProof.Rows.sortedAll_old) (Nat.le_succ _) ⟨hlen, out, ep, vals_of_each hr, he'⟩, rfl, q _ (I.hok.fresh (Nat.le_succ _))⟩
theorem triples {w : Wd} : ∀ {xs : List T} {vs : List V} {ds : List PyData}, w.RCs G vs xs → toDs (fun _ => none) xs = some ds →
    ∃ bs : List (V × T × PyData), bs.map (·.1) = vs ∧ bs.map (·.2) = xs.zip ds ∧ bs.map (·.2.2) = ds ∧ ∀ b ∈ bs, w.RC G b.1 b.2.1 ∧ Dp G.K w.H b.1 b.2.2
  | [], _, ds, .nil, h => by
    simp only [toDs, Option.some.injEq] at h
    subst h
    exact ⟨[], rfl, rfl, rfl, by simp⟩
  | x :: xs, _, ds, .cons (v := v) h1 c, h => by
    simp only [toDs] at h
    cases q1 : toD (fun _ => none) x with
    | none => rw [q1] at h; cases h
    | some d =>
      cases q2 : toDs (fun _ => none) xs with
      | none => rw [q1, q2] at h; cases h
      | some es =>
        rw [q1, q2] at h
        simp only [Option.some.injEq] at h
        subst h
        obtain ⟨bs, e1, e2, e3, e4⟩ := triples c q2
        refine ⟨(v, x, d) :: bs, by simp [e1], by simp [e2], by simp [e3], fun b hb => ?_⟩
        rcases List.mem_cons.mp hb with rfl | hb
        · exact ⟨h1, dp_c h1 q1⟩
        · exact e4 b hb
theorem rcs_map {w : Wd} : ∀ {bs : List (V × T × PyData)}, (∀ b ∈ bs, w.RC G b.1 b.2.1) → w.RCs G (bs.map (·.1)) (bs.map (·.2.1))
  | [], _ => .nil
  | b :: bs, h => .cons (h b (by simp)) (rcs_map fun c hc => h c (by simp [hc]))
theorem sortOk_alike {ds : List PyData} (h : sortOk ds = true) : PySem.W.AllAlike ds ∧ PySem.W.Sortable ds ∧ ∀ d ∈ ds, d.depth ≤ 64 := by
  unfold sortOk at h
  simp only [Bool.and_eq_true, List.all_eq_true, Bool.or_eq_true, decide_eq_true_eq] at h
  obtain ⟨⟨h1, h2⟩, h3⟩ := h
  refine ⟨fun d hd e he => h1 d hd e he, ?_, h3⟩
  rcases h2 with h2 | h2
  · refine .inl fun d hd => ?_
    have := h2 d hd
    unfold tupNe at this
    split at this
    · exact ⟨_, _, rfl⟩
    · cases this
  · refine .inr fun d hd => ?_
    have := h2 d hd
    cases d <;> first | (cases this; done) | exact ⟨by simp, by simp⟩
theorem sort_ok (hK : X.K = G.K) : BiOk G W (rSortD X.K) (on1 sortT) := by
  refine on1_ok fun w w2 σ x v F Q h e ok r ow => ?_
  unfold sortT at h
  split at h
  · rename_i o xs q
    split at h
    · rename_i ds qd
      split at h
      · rename_i c
        simp only [Bool.and_eq_true] at c
        obtain ⟨⟨c1, c2⟩, c3⟩ := c
        obtain ⟨a, vs, rfl, ha, cs⟩ := (node_of ok r q).clos c1
        obtain ⟨bs, e1, e2, e3, e4⟩ := triples cs qd
        obtain ⟨s1, s2, s3⟩ := sortOk_alike c2
        have hb3 : ∀ b ∈ bs, b.2.2.depth ≤ 64 := fun b hb => s3 _ (by rw [← e3]; exact List.mem_map.mpr ⟨b, hb, rfl⟩)
        refine ⟨a, bs, rfl, by rw [e1]; exact SqL.of ha, fun b hb => by rw [hK]; exact (e4 b hb).2, by rw [e3]; exact s1, by rw [e3]; exact s2, ?_, hb3, fun p hp => ?_⟩
        · have : bs.length = xs.length := by rw [← cs.length, ← e1, List.length_map]
          rw [this]
          exact of_decide_eq_true c3
        · have hs : ((xs.zip ds).mergeSort sortLe).map (·.1) = (bs.mergeSort (PySem.W.dataLe false (·.2.2))).map (·.2.1) := by
            rw [← e2]
            have := List.map_mergeSort (r := PySem.W.dataLe false (fun b : V × T × PyData => b.2.2)) (s := sortLe) (f := fun b : V × T × PyData => b.2) (l := bs) (fun a _ b _ => by rw [PySem.W.dataLe_eq]; rfl)
            rw [← this, List.map_map]
            rfl
          rw [hs] at h
          exact h.newOwn rfl e ok hp (g := .lst) upd_same (rcs_map fun b hb => (e4 b ((List.mergeSort_perm _ _).mem_iff.mp hb)).1)
      · exact h.elim
    · exact h.elim
  · exact h.elim
/-! repr -/
theorem repr_ok (hK : X.K = G.K) (hw : X.w = G.w) : BiOk G W (rReprX X.w X.K) (on1 reprT) := by
  refine on1_ok fun w w2 σ x v F Q h e ok r ow => ?_
  unfold reprT at h
  split at h
  · rename_i d qd
    split at h
    · rename_i c
      simp only [Bool.and_eq_true, decide_eq_true_eq] at c
      have dp := dx_of ok r qd
      exact ⟨v, d, rfl, by rw [hK, hw]; exact dp, c.1, ⟨of_decide_eq_true c.2.1, c.2.2⟩, h.fin rfl e ok (.cl (.str _))⟩
    · exact h.elim
  · exact h.elim
/-! min(list, default=None) -/
def rMinD (K : PySem.W.Frag) : List V → List V → Hp → VK → Prop := fun vs zs H Q => ∃ (a : Addr) (ns : List Int), vs = [.ref a] ∧ zs = [.non] ∧ SqL K H a (ns.map V.int) ∧ (ns = [] → Q .non H) ∧ (∀ n r, ns = n :: r → Q (.int (minI ns)) H)
theorem fold_min : ∀ (ns : List Int) (n : Int), ns.foldl min n = ns.foldl (fun a b => if b < a then b else a) n
  | [], _ => rfl
  | k :: ns, n => by
    have e : min n k = if k < n then k else n := by
      split <;> omega
    simp only [List.foldl_cons, e]
    exact fold_min ns _
theorem dep_ints : ∀ ns : List Int, PyData.depthAll (ns.map PyData.int) ≤ 1
  | [] => by simp [PyData.depthAll]
  | n :: ns => by
    have := dep_ints ns
    simp only [List.map_cons, PyData.depthAll, PyData.depth]
    omega
theorem cr_minD (hc : X.calm = true) (hu : X.A.units + 70 < cLine) : CallRK X (.builtin "min") [Str.ofString "default"] (rMinD X.K) := by
  intro pins s σ H vs zs us ws Q I r rz h
  obtain ⟨a, ns, rfl, rfl, hs, q0, q1⟩ := h
  obtain ⟨its, rv, hl, _⟩ := I.list hs
  obtain rfl := Vals.ref1 r
  obtain ⟨w1, rfl, e1⟩ : ∃ w1, ws = [w1] ∧ w1 = Value.none := by
    cases rz with
    | cons e t => cases t; exact ⟨_, rfl, e⟩
  subst e1
  have hr : ReadsAll s.heap its (ns.map PyData.int) [] := rv.ints.reads s.heap
  have al : PySem.W.AlikeAll (ns.map PyData.int) := by
    refine ⟨fun x hx y hy => ?_, fun x hx => ?_⟩
    · obtain ⟨i, _, rfl⟩ := List.mem_map.mp hx
      obtain ⟨j, _, rfl⟩ := List.mem_map.mp hy
      rfl
    · obtain ⟨i, _, rfl⟩ := List.mem_map.mp hx
      simp
  have dp := dep_ints ns
  refine PySem.W.min_list_default (I.ok.hd hc) hl.isList (by simpa using hr) al (by omega) (fun e h' tk hk => ?_) fun y ys i v h' tk bs e hi r2 hk => ?_
  · exact ⟨.non, H, I.kept hk, rfl, q0 (List.map_eq_nil_iff.mp e)⟩
  · cases ns with
    | nil => cases e
    | cons n ns =>
      simp only [List.map_cons, List.cons.injEq] at e
      obtain ⟨rfl, rfl⟩ := e
      rw [PySem.W.minD_ints, fold_min] at r2
      cases r2
      exact ⟨.int _, H, I.kept hk, ⟨_, rfl⟩, q1 n ns rfl⟩
/-- min of a tuple, too -/
def rMinT (K : PySem.W.Frag) : List V → Hp → VK → Prop := fun vs H Q => ∃ (a : Addr) (ns : List Int), vs = [.ref a] ∧ SqT K H a (ns.map V.int) ∧ 0 < ns.length ∧ Q (.int (minI ns)) H
theorem cr_minT (hc : X.calm = true) (hu : X.A.units + 70 < cLine) : CallR X (.builtin "min") (rMinT X.K) := by
  intro pins s σ H vs us Q I r h
  obtain ⟨a, ns, rfl, hs, h0, q1⟩ := h
  obtain ⟨its, rv, hl, _⟩ := I.tuple hs
  obtain rfl := Vals.ref1 r
  cases ns with
  | nil => simp at h0
  | cons n ns =>
    have hr : ReadsAll s.heap its ((n :: ns).map PyData.int) [] := rv.ints.reads s.heap
    have al : PySem.W.AlikeAll ((n :: ns).map PyData.int) := by
      refine ⟨fun x hx y hy => ?_, fun x hx => ?_⟩
      · obtain ⟨i, _, rfl⟩ := List.mem_map.mp hx
        obtain ⟨j, _, rfl⟩ := List.mem_map.mp hy
        rfl
      · obtain ⟨i, _, rfl⟩ := List.mem_map.mp hx
        simp
    have dp := dep_ints (n :: ns)
    refine PySem.W.min_tuple_data (x := .int n) (xs := ns.map PyData.int) (I.ok.hd hc) (show s.heap.IsTuple a its.toArray from hl) (by simpa using hr) (by simpa using al) (by simp only [List.map_cons] at dp; omega) fun i v h' tk bs hi r2 hk => ?_
    rw [PySem.W.minD_ints, fold_min] at r2
    cases r2
    exact ⟨.int _, H, I.kept hk, ⟨_, rfl⟩, q1⟩
theorem minLA_ok (hK : X.K = G.K) : BiOk G W (fun xs H Q => rMin X.K xs H Q ∨ rMinT X.K xs H Q) (on1 minLT) := by
  refine on1_ok fun w w2 σ x v F Q h e ok r ow => ?_
  unfold minLT at h
  split at h
  · rename_i ns q
    unfold minLI at h
    split at h
    · rename_i hn
      cases q1 : lsqOf w2.st x with
      | none => rw [q1] at q; cases q
      | some xs =>
        rw [q1, Option.bind_some] at q
        obtain ⟨a, vs, F', rfl, ha, cs, sb⟩ := lsq_of ok r q1
        rw [ints_of cs q] at ha
        have fin := Post.fin (t := .int (minI ns)) h rfl e ok (.cl (.int _))
        rcases ha with ha | ha
        · refine .inl ⟨a, ns, rfl, SqL.of ha, hn, fun m h1 h2 => ?_⟩
          obtain ⟨m1, m2⟩ := minI_spec hn
          have : m = minI ns := Int.le_antisymm (h2 _ m1) (m2 m h1)
          rw [this]
          exact fin
        · exact .inr ⟨a, ns, rfl, SqT.of ha, hn, fin⟩
    · exact h.elim
  · exact h.elim
/-- divmod: a new tuple -/
theorem call_divmodX : CallR X (.builtin "divmod") (fun xs H Q => ∃ i j, xs = [.int i, .int j] ∧ CDivW i j ∧ ∀ p, H p = none → Q (.ref p) (upd H p (.tup [.int (i / j), .int (i % j)]))) := by
  intro pins s σ H xs us Q I r h
  obtain ⟨i, j, rfl, ⟨h1, h2⟩, q⟩ := h
  obtain ⟨u, w', rfl, ⟨t, rfl⟩, ⟨t', rfl⟩⟩ := vals2 r
  refine divmod_int (by omega) ?_ (.inl (PyProof.noPylong_of_log2 h2))
  rw [Int.fdiv_eq_ediv_of_nonneg i (by omega), Int.fmod_eq_emod_of_nonneg i (by omega)]
  have hn : H s.heap.objs.size = none := I.hok.fresh (Nat.le_refl _)
  refine ⟨.ref s.heap.objs.size, _, ?_, rfl, q _ hn⟩
  refine I.laid (fun b o e => Heap.get?_push_of_some _ e) (Nat.le_refl _) ⟨by simp only [List.length_cons, List.length_nil]; rw [sizeLine_eq]; decide, [.int (i / j) s.toks, .int (i % j) (s.toks + 1)], .cons ⟨_, rfl⟩ (.cons ⟨_, rfl⟩ .nil), ?_⟩
  exact ⟨_, Heap.get?_push_size s.heap rfl, rfl, 0, rfl⟩
theorem divmod_ok : BiOk G W (fun xs H Q => ∃ i j, xs = [.int i, .int j] ∧ CDivW i j ∧ ∀ p, H p = none → Q (.ref p) (upd H p (.tup [.int (i / j), .int (i % j)]))) (on2 divmodT) := by
  refine on2_ok fun w w2 σ x y v u F1 F2 Q h e ok r1 r2 ow => ?_
  unfold divmodT at h
  split at h
  · split at h
    · rename_i hl
      simp only [Bool.and_eq_true, decide_eq_true_eq] at hl
      obtain ⟨rfl, rfl⟩ := RO_int r1
      obtain ⟨rfl, rfl⟩ := RO_int r2
      exact ⟨_, _, rfl, hl, fun p hp => h.newFz rfl e ok hp (g := .tup) upd_same (.cons (.int _) (.cons (.int _) .nil))⟩
    · exact h.elim
  · exact h.elim
/-- a new dict -/
theorem Post.newDict {w w1 : Wd} {σ : L2.St} {ks : List NestedKey} {vs : List V} {xs : List T} {st : Store} {Q : VK} (hw : X.w = G.w) (h : Post G W w σ (.ok (.nd (.dic ks) .own xs) st) Q) (e : w1.st = st) (ev : Ev w w1) (ok : w1.Ok G) (c : w1.RCs G vs xs) : NewD X.w w1.H ks vs Q := fun p o hp hs d =>
  h.newOwn e ev ok hp (g := .dic ks) ⟨o, upd_same, hs, by rw [← hw]; exact d⟩ c
def rDictA (w : World) : List V → Hp → VK → Prop := fun xs H Q => (∃ a ps ks vs, xs = [.ref a] ∧ H a = some (.lst ps) ∧ PairsAt H ps vs ∧ KRels H true ks vs ∧ NewD w H (mrgN [] ks) (mrgD [] [] ks vs) Q) ∨
  ∃ a ks vs b, xs = [.ref a] ∧ DctAt w H a ks vs ∧ KRels H b ks vs ∧ (b = true → apartK ks = true) ∧ NewD w H ks vs Q
theorem dict_ok (hw : X.w = G.w) : BiOk G W (rDictA X.w) (on1 dictT) := by
  refine on1_ok fun w w2 σ x v F Q h e ok r ow => ?_
  unfold dictT at h
  split at h
  · rename_i o xs q
    split at h
    · rename_i ys q1
      split at h
      · rename_i ks q2
        split at h
        · rename_i hl
          rw [Bool.and_eq_true] at hl
          obtain ⟨a, vs, rfl, ha, cs⟩ := (node_of ok r q).clos hl.1
          obtain ⟨ws, p, c⟩ := pairs_c cs q1
          exact .inl ⟨a, vs, ks, ws, rfl, ha, p, krels_o (r := w2.r) c.toO q2, Post.newDict hw h rfl e ok (mrgD_c .nil c)⟩
        · exact h.elim
      · exact h.elim
    · exact h.elim
  · rename_i ks o xs q
    split at h
    · rename_i hl
      simp only [Bool.and_eq_true, Bool.or_eq_true, decide_eq_true_eq] at hl
      obtain ⟨a, vs, rfl, ha, cs⟩ := (node_of ok r q).clos hl.1
      rcases hl.2 with q1 | ⟨q1, q2⟩
      · exact .inr ⟨a, ks, vs, false, rfl, by rw [hw]; exact ha, krels_o (r := w2.r) cs.toO q1, (fun z => nomatch z), Post.newDict hw h rfl e ok cs⟩
      · exact .inr ⟨a, ks, vs, true, rfl, by rw [hw]; exact ha, krels_o (r := w2.r) cs.toO q1, (fun _ => q2), Post.newDict hw h rfl e ok cs⟩
    · exact h.elim
  · exact h.elim
theorem biop_ok (hK : X.K = G.K) (hw : X.w = G.w) (hc : X.calm = true) (hg : X.A.guards = some []) (hu : X.A.units + 70 < cLine) (b : Bi) {f : Value} {n : String} (hb : b.fn = some (f, n)) : ∃ r, CallR X f r ∧ BiOk G W r (biop b) := by
  cases b <;> simp only [Bi.fn, Option.some.injEq, Prod.mk.injEq, reduceCtorEq] at hb <;> obtain ⟨rfl, rfl⟩ := hb
  · exact ⟨_, CallR.or call_len call_lenN, len_ok hK hw⟩
  · exact ⟨_, CallR.or call_int1 call_int_str, int_ok⟩
  · exact ⟨_, call_str_int, str_ok⟩
  · exact ⟨_, call_abs, abs_ok⟩
  · exact ⟨_, CallR.or (call_max2 hc) (cr_maxP hc hu), max_ok hK⟩
  · exact ⟨_, call_min2 hc, min_ok⟩
  · exact ⟨_, cr_max hc, maxL_ok⟩
  · exact ⟨_, CallR.or (cr_min hc) (cr_minT hc hu), minLA_ok hK⟩
  · exact ⟨_, cr_sumX hc, sum_ok⟩
  · exact ⟨_, cr_sortD hu, sort_ok hK⟩
  · exact ⟨_, CallR.or call_list_of (call_listN hc), list_ok hK hw⟩
  · exact ⟨_, call_tuple_of, tuple_ok⟩
  · exact ⟨_, cr_all hc, all_ok⟩
  · exact ⟨_, cr_any hc, any_ok⟩
  · exact ⟨_, call_divmodX, divmod_ok⟩
  · exact ⟨_, cr_reprX hg hu, repr_ok hK hw⟩
  · exact ⟨_, CallR.or (call_dictN hc (by omega)) (call_dictCopy (by omega)), dict_ok hw⟩
end PC
namespace PC
open PySem PySem.Spec PyProof.Rows L2
variable {G : Glb} {X : Cx} {W : WX}
/-! ### the tables, the context -/
structure Tab where
  fn : List (Option Str)
  cst : List (Str × T)
  blt : List Str
  cls : List Str
  exc : List (Option Str)
  /-- is there a try -/
  tr : Bool := false
  /-- the defs that except suites call -/
  hfn : List (Nat × Str) := []
  /-- the own classes that isinstance is asked for -/
  iso : List Nat := []
def litOf : Const → Option T
  | .none => some .non
  | .bool b => some (.bl b)
  | .int i => some (.int i)
  | .str s => some (.str s)
  | _ => none
def eqLit : T → T → Bool
  | .non, .non => true
  | .bl a, .bl b => decide (a = b)
  | .int a, .int b => decide (a = b)
  | .str a, .str b => decide (a = b)
  | _, _ => false
theorem eqLit_eq {a b : T} (h : eqLit a b = true) : a = b := by
  cases a <;> cases b <;> first | rfl | cases h | (have h := of_decide_eq_true h; rw [h])
/-- an exception class of the program's own -/
structure ExcOk (G : Glb) (c : Nat) : Prop where
  base : ∃ B newId initId bmB, ExcBaseFacts B newId initId bmB ∧ PySem.W.excIn G.K (G.cls c) bmB newId = true
  kp : PySem.W.keepIn G.K (.ref (G.cls c)) = true
  sub : PySem.W.subIn G.K (.ref (G.cls c)) (.type "BaseException") = some true
  ty : PySem.W.typeIn G.K (.ref (G.cls c)) = some (.type "type")
/-- what isinstance wants of an own class -/
structure InsC (K : PySem.W.Frag) (C : Addr) : Prop where
  ha : PySem.W.findIn K (.ref C) "__class__" = some (some (.builtin "object.__class__"))
  hn : PySem.W.specialIn K (.builtin "object.__class__") "__get__" = some (some (.builtin "getset_descriptor.__get__"))
  ht : PySem.W.takesIn K (.builtin "object.__class__") = some true
  hm : PySem.W.mroIn K C (.type "object") = some true
structure GlbOk (G : Glb) (P : Prog) (tb : Tab) : Prop where
  fn : ∀ i x, tb.fn[i]? = some (some x) → G.mg x = some (.ref (G.fa i)) ∧ PySem.W.keepIn G.K (.ref (G.fa i)) = true
  has : (∀ i x, tb.fn[i]? = some (some x) → (P.fn i).isSome = true) ∧ (∀ c m f, P.meths.lookup (c, m) = some f → (P.fn f).isSome = true) ∧ ∀ c f, P.inits.lookup c = some f → (P.fn f).isSome = true
  bind : ∀ i F, P.fn i = some F → Binds G.K (G.fd i) (G.ps i) [] ∧ (G.ps i).length = F.np
  cst : ∀ q ∈ tb.cst, ∃ v u, G.mg q.1 = some u ∧ RelV v u ∧ ∀ H S, RepC G H S v q.2
  blt : ∀ x ∈ tb.blt, G.mg x = none
  cls : ∀ c x, tb.cls[c]? = some x → G.mg x = some (.ref (G.cls c))
  exc : ∀ c x, tb.exc[c]? = some (some x) → G.mg x = some (.ref (G.cls c)) ∧ ExcOk G c
  meth : ∀ c m f, P.meths.lookup (c, m) = some f → Meth G.K (G.cls c) m (G.fa f)
  init : ∀ c f, P.inits.lookup c = some f → Mk G.K (G.cls c) (G.fa f) ∧ Cls G.K (G.cls c)
  fld : ∀ q ∈ P.flds, Cls G.K (G.cls q.1) ∧ NoAttr G.K (G.cls q.1) q.2
  low : ∀ f, P.fn (mkBase + f) = none
  ins : ∀ c ∈ tb.iso, InsC G.K (G.cls c)
/-- what a def's run does, by the evaluator -/
def PostF (G : Glb) (w : Wd) (out : R T) (Q : VK) (E : XK) : Prop := match out with
  | .ok t st' => ∀ v w' F, w'.st = st' → w'.r = w.r → Ev w w' → w'.Ok G → w'.RO G v t F → Own w w' F → Q v w'.H
  | .exc c st' => ∀ w', w'.st = st' → w'.r = w.r → Ev w w' → w'.Ok G → E (.ref (G.cls c)) none w'.H
  | .bad => False
def spF (G : Glb) (P : Prog) (n i : Nat) : Sp := fun vs H Q E => ∃ (w : Wd) (xs : List T), w.H = H ∧ w.Ok G ∧ w.R0s G vs xs ∧ vs.length = (G.ps i).length ∧ PostF G w (callN P n i xs w.st) Q E
structure Ctx (G : Glb) (P : Prog) (tb : Tab) (n : Nat) (X : Cx) (sc : Scope) (W : WX) : Prop where
  K : X.K = G.K
  mg : X.mg = G.mg
  wd : X.w = G.w
  nd : X.N.Nodup
  sc : X.env.scope = sc
  calm : X.calm = true
  room : RoomG (n + 1) X.A
  tk : L2N.Takes X W
  fns : ∀ i F, P.fn i = some F → FnG X.prog X.w X.K X.mg X.base (L2N.CX X.prog X.w) (n + 1) (G.fa i) (G.fd i) (G.ps i) (spF G P n i)
  fns1 : ∀ i F, P.fn i = some F → FnG X.prog X.w X.K X.mg X.base (L2N.CX X.prog X.w) n (G.fa i) (G.fd i) (G.ps i) (spF G P (n - 1) i)
  gl : GlbOk G P tb
theorem Post.toF {w : Wd} {σ : L2.St} {out : R T} {Q : VK} (h : Post G W w σ out Q) : PostF G w out Q (WE W σ) := by
  cases out with
  | ok t st => exact fun v w' F a _ b c d e => h v w' F a b c d e
  | exc c st => exact fun w' a _ b c => h w' a b c
  | bad => exact h
/-! ### what is asked of the text -/
def visB (sc : Scope) (x : Str) : Bool := match sc.names.lookup x with
  | some .local | some .cell | some .free => true
  | _ => false
def glB (sc : Scope) (x : Str) : Bool := match sc.names.lookup x with
  | some .globalImplicit => !(x == ("__debug__" : Str)) && !(x == ("__name__" : Str))
  | _ => false
theorem visB_ok {sc : Scope} {x : Str} (h : visB sc x = true) : Vis sc x := by
  unfold visB at h
  split at h
  · exact .inl (by assumption)
  · exact .inr (.inl (by assumption))
  · exact .inr (.inr (by assumption))
  · cases h
theorem glB_ok {sc : Scope} {x : Str} (h : glB sc x = true) (e : X.env.scope = sc) : Gl X x ∧ (x == ("__debug__" : Str)) = false ∧ x ≠ "__name__" := by
  unfold glB at h
  split at h
  · rename_i q
    simp only [Bool.and_eq_true, Bool.not_eq_true'] at h
    refine ⟨?_, h.1, fun z => ?_⟩
    · show X.env.scope.names.lookup x = _
      rw [e]
      exact q
    · have := h.2
      rw [z] at this
      simp at this
  · cases h
def nameB (N : List Str) (sc : Scope) (i : Nat) (x : Str) : Bool := decide (N[i]? = some x) && visB sc x && !(x == ("__debug__" : Str)) && !(x == ("__classdict__" : Str))
def esNil : Es → Bool
  | .nil => true
  | _ => false
/-- no star, no yield .. -/
def plainB : Expr → Bool
  | .Constant .. | .Name .. | .BinOp .. | .UnaryOp .. | .BoolOp .. | .Compare .. | .IfExp .. | .Tuple .. | .List .. | .Dict .. | .Subscript .. | .Call .. | .Attribute .. | .ListComp .. => true
  | _ => false
/-- its truth is its value's -/
def truthB : Expr → Bool
  | .Constant .. | .Name .. | .BinOp .. | .Tuple .. | .List .. | .Subscript .. | .Call .. | .Attribute .. | .ListComp .. => true
  | _ => false
/-- not a call without arguments -/
def baseB : Expr → Bool
  | .Call _ [] [] _ => false
  | _ => true
theorem star_plain {e : Expr} (h : plainB e = true) (es : List Expr) (env : Env) : starEach (e :: es) env = (false, eval e env) :: starEach es env := by
  cases e <;> first | rfl | cases h
theorem base_plain {e : Expr} (h : baseB e = true) (f : Str) (env : Env) (t : Sem Value) : attributeBase e f env t = t := by
  cases e with
  | Call func args kws pos =>
    cases func with
    | Name id p =>
      cases args with
      | nil =>
        cases kws with
        | nil => cases h
        | cons _ _ => rfl
      | cons _ _ => cases kws <;> rfl
    | _ => cases args <;> cases kws <;> rfl
  | _ => rfl
theorem truth_plain {e : Expr} (h : truthB e = true) (env : Env) (whole : Sem Value) : isTrue e env whole = (do let v ← whole; standAt e.pos; holding [v] (truthy v)) := by
  cases e <;> first | rfl | cases h
theorem fold_plain {e : Expr} (h : plainB e = true) (env : Env) (x : Value) : foldedSetIterable e env x = pure x := by
  cases e <;> first | rfl | cases h
theorem stars_any {es : List Expr} (h : es.all plainB = true) (pos : Pos) (env : Env) : (backTo pos (starEach es env)).any (·.1) = false := by
  induction es with
  | nil => rfl
  | cons e es ih =>
    rw [List.all_cons, Bool.and_eq_true] at h
    rw [star_plain h.1]
    show (false || (backTo pos (starEach es env)).any (·.1)) = false
    rw [ih h.2]
    rfl
theorem stars_form {es : List Expr} (h : es.all plainB = true) (pos : Pos) (env : Env) : (backTo pos (starEach es env)).all (fun x => !x.1) = true := by
  induction es with
  | nil => rfl
  | cons e es ih =>
    rw [List.all_cons, Bool.and_eq_true] at h
    rw [star_plain h.1]
    show (true && (backTo pos (starEach es env)).all (fun x => !x.1)) = true
    rw [ih h.2]
    rfl
mutual
/-- a target's own names -/
def tgOwn : Tg → Expr → List (Str × Nat)
  | .name i, .Name x _ => [(x, i)]
  | .tup ts, .Tuple es _ _ => tgOwns ts es
  | _, _ => []
def tgOwns : List Tg → List Expr → List (Str × Nat)
  | t :: ts, e :: es => tgOwn t e ++ tgOwns ts es
  | _, _ => []
end
def locB (sc : Scope) (x : Str) (fnB : Bool) : Bool := match sc.names.lookup x with
  | some .local => true
  | some .cell => true
  | _ => false
mutual
/-- is the text's target -/
def mTg (N : List Str) (sc : Scope) : Tg → Expr → Bool
  | .name i, .Name x _ => decide (N[i]? = some x) && locB sc x true
  | .tup ts, .Tuple es _ _ => mTgs N sc ts es
  | _, _ => false
def mTgs (N : List Str) (sc : Scope) : List Tg → List Expr → Bool
  | [], [] => true
  | t :: ts, e :: es => mTg N sc t e && mTgs N sc ts es
  | _, _ => false
end
/-- a block's scope as it runs -/
def relB (sc scope : Scope) : Scope := { scope with names := scope.names.map fun (n, k) => if (k == .free && sc.kind == .function && sc.names.lookup n == some .cell) then (n, .cell) else (n, k) }
def tyNm : Ty → Option Str
  | .int => some "int" | .bool => some "bool" | .str => some "str" | .list => some "list" | .tuple => some "tuple" | .dict => some "dict"
  | _ => none
def bmNm : Bm → Str
  | .append => "append" | .extend => "extend" | .clear => "clear" | .pop0 => "pop" | .pop1 => "pop" | .insert => "insert" | .remove => "remove" | .count => "count" | .index => "index" | .join => "join"
  | .split => "split" | .replace => "replace" | .getd => "get" | .itemsd => "items" | .popd => "pop" | .cleard => "clear"
def E.litT : E → T
  | .lit t => t
  | _ => .non
section
variable (tb : Tab) (N : List Str)
def bltB (sc : Scope) (x : Str) : Bool := glB sc x && tb.blt.any fun y => decide (y = x)
/-- a class in isinstance -/
def mTy (sc : Scope) (c : Ty) : Expr → Bool
  | .Name x _ => (match tyNm c with
    | some y => decide (x = y) && bltB tb sc x
    | none => false)
  | _ => false
def mTys (sc : Scope) : List Ty → List Expr → Bool
  | [], [] => true
  | c :: cs, e :: es => mTy tb sc c e && mTys sc cs es
  | _, _ => false
def mOwn (sc : Scope) : List Ty → Expr → Bool
  | [.own c], .Name x _ => glB sc x && decide (tb.cls[c]? = some x) && tb.iso.contains c
  | _, _ => false
mutual
/-- is the text's expression -/
def mE (sc : Scope) (e : E) (p : Expr) : Bool := match e, p with
  | .lit t, .Constant c _ _ => (match litOf c with
    | some u => eqLit t u
    | none => false)
  | .var i, .Name x _ => nameB N sc i x
  | .glb x t, .Name y _ => decide (x = y) && glB sc x && tb.cst.any fun q => decide (q.1 = x) && eqLit t q.2
  | .bin op a b, .BinOp ea op' eb _ => decide (op = op') && mE sc a ea && mE sc b eb
  | .neg a, .UnaryOp .USub ea _ => mE sc a ea
  | .not a, .UnaryOp .Not ea _ => mE sc a ea
  | .cmp op a b, .Compare ea [op'] [eb] _ => decide (op = op') && mE sc a ea && mE sc b eb && !(behindInMarks op eb)
  | .chain op op' a b c, .Compare ea [oq, oq'] [eb, ec] _ => decide (op = oq) && decide (op' = oq') && mE sc a ea && mE sc b eb && mE sc c ec && !(lastMarks [oq, oq'] [eb, ec])
  | .and a b, .BoolOp .And (ea :: eb :: es) pos => mE sc a ea && (match es with
    | [] => mE sc b eb
    | ec :: es => mE sc b (.BoolOp .And (eb :: ec :: es) pos))
  | .or a b, .BoolOp .Or (ea :: eb :: es) pos => mE sc a ea && (match es with
    | [] => mE sc b eb
    | ec :: es => mE sc b (.BoolOp .Or (eb :: ec :: es) pos))
  | .ife c a b, .IfExp ec ea eb _ => mT sc c ec && mE sc a ea && mE sc b eb
  | .tup es, .Tuple ps _ _ => mEs sc es ps
  | .tupX es, .Tuple ps _ _ => mEs sc es ps
  | .lst es, .List ps _ => mEs sc es ps
  | .lstX es, .List ps _ => mEs sc es ps
  | .idx a b, .Subscript ea eb _ => mE sc a ea && mE sc b eb && plainB eb
  | .slc a lo hi, .Subscript ea (.Slice l h none _) _ => mE sc a ea && (match l with
    | none => isNop lo
    | some p => mE sc lo p && !(isNop lo)) && (match h with
    | none => isNop hi
    | some p => mE sc hi p && !(isNop hi))
  | .back a, .Subscript ea (.Slice none none (some (.UnaryOp .USub (.Constant (.int 1) _ _) _)) _) _ => mE sc a ea
  | .lrng a, .Call (.Name x _) [.Call (.Name y _) [ea] [] _] [] _ => decide (x = "list") && bltB tb sc x && decide (y = "range") && bltB tb sc y && mE sc a ea && plainB ea
  | .minD a, .Call (.Name x _) [ea] [⟨some k, .Constant .none _ _, _⟩] _ => decide (x = Str.ofString "min") && bltB tb sc x && decide (k = Str.ofString "default") && mE sc a ea && plainB ea
  | .dic ks vs, .Dict [] [] _ => esNil ks && esNil vs
  | .dis k v, .Dict [some pk] [pv] _ => mE sc k pk && mE sc v pv
  | .call f es, .Call (.Name x _) (p :: ps) [] _ => glB sc x && decide (tb.fn[f]? = some (some x)) && mEs sc es (p :: ps)
  | .make c es, .Call (.Name x _) (p :: ps) [] _ => glB sc x && decide (tb.cls[c]? = some x) && mEs sc es (p :: ps)
  | .meth m o es, .Call (.Attribute eo m' apos) ps [] pos => decide (m = m') && mE sc o eo && baseB eo && mEs sc es ps && (apos.endLine == pos.line) && decide (ps.length < 20)
  | .fld o f, .Attribute eo f' _ => decide (f = f') && mE sc o eo && baseB eo
  | .bi b es, .Call (.Name x _) (p :: ps) [] _ => (match b.fn with
    | some (_, y) => decide (x = Str.ofString y) && bltB tb sc x
    | none => false) && mEs sc es (p :: ps)
  | .isi a cs, .Call (.Name x _) [ea, ec] [] _ => decide (x = "isinstance") && bltB tb sc x && mE sc a ea && plainB ea && (match ec with
    | .Tuple es _ _ => mTys tb sc cs es && !cs.isEmpty && decide (cs.length < 100)
    | ec => mTys tb sc cs [ec] || mOwn tb sc cs ec)
  | .bm m o es, .Call (.Attribute eo m' apos) ps [] pos => decide (bmNm m = m') && mE sc o eo && baseB eo && mEs sc es ps && (apos.endLine == pos.line) && decide (ps.length < 20)
  | .comp elt x tg it c, .ListComp ee [⟨etg, ei, ifs, 0⟩] scope _ => blkC N sc scope (tgOwn tg etg) && decide ((tgOwn tg etg).map (·.2) = tg.vars) && mTg N scope tg etg && mI sc it ei etg && (match ifs with
    | [] => eqLit c.litT (.bl true)
    | [p] => mT (relB sc scope) c p
    | _ => false) && mE (relB sc scope) elt ee
  | .keep _ e, p => mE sc e p
  | _, _ => false
termination_by structural e
/-- .. as a test -/
def mT (sc : Scope) (e : E) (p : Expr) : Bool := match e, p with
  | .not a, .UnaryOp .Not ea _ => mT sc a ea
  | .cmp op a b, .Compare ea [op'] [eb] _ => decide (op = op') && mE sc a ea && mE sc b eb && !(behindInMarks op eb)
  | .chain op op' a b c, .Compare ea [oq, oq'] [eb, ec] _ => decide (op = oq) && decide (op' = oq') && mE sc a ea && mE sc b eb && mE sc c ec && !(lastMarks [oq, oq'] [eb, ec])
  | .and a b, .BoolOp .And (ea :: eb :: es) pos => mT sc a ea && (match es with
    | [] => mT sc b eb
    | ec :: es => mT sc b (.BoolOp .And (eb :: ec :: es) pos))
  | .or a b, .BoolOp .Or (ea :: eb :: es) pos => mT sc a ea && (match es with
    | [] => mT sc b eb
    | ec :: es => mT sc b (.BoolOp .Or (eb :: ec :: es) pos))
  | .lit t, .Constant c _ _ => (match litOf c with
    | some u => eqLit t u
    | none => false)
  | .var i, .Name x _ => nameB N sc i x
  | .call f es, .Call (.Name x _) (p :: ps) [] _ => glB sc x && decide (tb.fn[f]? = some (some x)) && mEs sc es (p :: ps)
  | .meth m o es, .Call (.Attribute eo m' apos) ps [] pos => decide (m = m') && mE sc o eo && baseB eo && mEs sc es ps && (apos.endLine == pos.line) && decide (ps.length < 20)
  | .idx a b, .Subscript ea eb _ => mE sc a ea && mE sc b eb && plainB eb
  | .bi b es, .Call (.Name x _) (p :: ps) [] _ => (match b.fn with
    | some (_, y) => decide (x = Str.ofString y) && bltB tb sc x
    | none => false) && mEs sc es (p :: ps)
  | .isi a cs, .Call (.Name x _) [ea, ec] [] _ => decide (x = "isinstance") && bltB tb sc x && mE sc a ea && plainB ea && (match ec with
    | .Tuple es _ _ => mTys tb sc cs es && !cs.isEmpty && decide (cs.length < 100)
    | ec => mTys tb sc cs [ec] || mOwn tb sc cs ec)
  | _, _ => false
termination_by structural e
def mEs (sc : Scope) (es : Es) (ps : List Expr) : Bool := match es, ps with
  | .nil, [] => true
  | .cons e es, p :: ps => mE sc e p && plainB p && mEs sc es ps
  | _, _ => false
termination_by structural es
/-- .. what is walked -/
def mI (sc : Scope) (it : It) (p tg : Expr) : Bool := match it, p, tg with
  | .seq e, p, _ => mE sc e p && plainB p
  | .rng1 a, .Call (.Name x _) [pa] [] _, _ => decide (x = "range") && bltB tb sc x && mE sc a pa && plainB pa
  | .rng2 a b, .Call (.Name x _) [pa, pb] [] _, _ => decide (x = "range") && bltB tb sc x && mE sc a pa && mE sc b pb && plainB pa && plainB pb
  | .rng3 a b d, .Call (.Name x _) [pa, pb, pd] [] _, _ => decide (x = "range") && bltB tb sc x && mE sc a pa && mE sc b pb && mE sc d pd && plainB pa && plainB pb && plainB pd
  | .rev e, .Call (.Name x _) [p] [] _, _ => decide (x = "reversed") && bltB tb sc x && mE sc e p && plainB p
  | .enum e, .Call (.Name x _) [p] [] _, .Tuple _ _ _ => decide (x = "enumerate") && bltB tb sc x && mE sc e p && plainB p
  | .zip3 a b c, .Call (.Name x _) [pa, pb, pc] [] _, .Tuple _ _ _ => decide (x = "zip") && bltB tb sc x && mE sc a pa && mE sc b pb && mE sc c pc && plainB pa && plainB pb && plainB pc
  | .zip2 a b, .Call (.Name x _) [pa, pb] [] _, .Tuple _ _ _ => decide (x = "zip") && bltB tb sc x && mE sc a pa && mE sc b pb && plainB pa && plainB pb
  | _, _, _ => false
termination_by structural it
end
end
end PC
namespace PC
open PySem PySem.Spec PyProof.Rows L2
variable {G : Glb} {X : Cx} {W : WX}
/-! ### calls whose wish is at the slots -/
section
variable {CX : CXT} {k : Nat} {f C : Addr} {fd : FuncData} {ps : List Str} {sp : Sp} {E : L2.St → XK} {x m : Str} {p pos apos : Pos} {e o : Expr} {es : List Expr} {ta : TE} {t : TA}
theorem run_makeSD {pins : List (Addr × Obj)} {σ : L2.St} {H : Hp} {s : Shared} {Q : VK} {us : List Value} {vs : List V} (M : Mk X.K C f) (F : FnG X.prog X.w X.K X.mg X.base CX k f fd ps sp) (hr : RoomG (k + 1) X.A) (hb : Binds X.K fd ps [])
    (hx : PassesAt CX X σ (E σ)) (I : Inv X pins σ H s) (r : Vals vs us)
    (h : ∀ x dx, H x = none → H dx = none → dx ≠ x → sp (.ref x :: vs) (upd (upd H dx (.own x)) x (.ins C dx [])) (fun v H2 => v = .non ∧ Q (.ref x) H2) (E σ)) :
    wpAny (model X.prog X.w) X.A (call (.ref C) us) (EP X pins σ Q) X.xe s := by
  have hq := h (s.heap.objs.size + 1) s.heap.objs.size (I.hok.fresh (Nat.le_succ _)) (I.hok.fresh (Nat.le_refl _)) (Nat.ne_of_lt (Nat.lt_succ_self _))
  have I2 := Inv.made (C := C) I
  have r2 : Vals (V.ref (s.heap.objs.size + 1) :: vs) (Value.ref (s.heap.objs.size + 1) :: us) := .cons rfl r
  have hl : (Value.ref (s.heap.objs.size + 1) :: us ++ []).length = ps.length := by
    rw [List.append_nil]
    have e := r2.length
    rw [F.len _ _ _ _ hq] at e
    exact e.symm
  have hb2 := hb _ (Value.ref (s.heap.objs.size + 1) :: us) I2.kIn hl
  rw [List.append_nil] at hb2
  refine wpAny_call (make_map (f := f) I.kIn M.makes M.init (beq_iff_eq.mp M.fn) (codeAny_mono (F.run _ X.stack _ _ ⟨Value.ref (s.heap.objs.size + 1) :: us, []⟩ (Value.ref (s.heap.objs.size + 1) :: us) _ _ (E σ) (hr.make C us)
    (I2.env0.make C us []) hb2 r2 hq) fun r s' hq' => ?_))
  cases r with
  | error e => exact hx pins _ _ e s' I2 hq'
  | ok fl =>
    cases fl with
    | ret u =>
      obtain ⟨v, H', I3, rv, ev, q3⟩ := I2.after hq'
      subst ev
      exact ⟨rv, ⟨V.ref (s.heap.objs.size + 1), H', I3, rfl, q3⟩⟩
    | next => exact False.elim hq'
    | brk => exact False.elim hq'
    | cont => exact False.elim hq'
theorem pe_makeSD (M : Mk X.K C f) (F : FnG X.prog X.w X.K X.mg X.base CX k f fd ps sp) (hr : RoomG (k + 1) X.A) (hg : Gl X x) (hm : X.mg x = some (.ref C)) (hb : Binds X.K fd ps []) (hx : ∀ σ, PassesAt CX X σ (E σ))
    (ha : PA X (e :: es) t) (hdb : (x == ("__debug__" : Str)) = false) (he : starEach (e :: es) X.env = (false, eval e X.env) :: starEach es X.env) (hpl : (backTo pos (starEach es X.env)).any (·.1) = false) :
    PE X (.Call (.Name x p) (e :: es) [] pos) (fun σ H Q => t σ H fun vs H1 => ∀ x dx, H1 x = none → H1 dx = none → dx ≠ x → sp (.ref x :: vs) (upd (upd H1 dx (.own x)) x (.ins C dx [])) (fun v H2 => v = .non ∧ Q (.ref x) H2) (E σ)) := by
  refine ⟨fun pins s σ H Q I h => ?_⟩
  refine wpAny_Call_Name_kw (ld_glob I hg hm ?_ hdb)
  refine PySem.W.callWith_K (h₀ := X.base) I.ok.mod.kin M.kp (thn (ha.run pos pins s σ H _ I h) fun us s1 ⟨vs, H1, I1, r, q⟩ => ⟨I1.kIn, ?_⟩) he hpl
  exact run_makeSD M F hr hb (hx σ) I1 r q
theorem meth_form {es : List Expr} {env : Env} {pos : Pos} (hes : es.all plainB = true) (hlen : es.length < 20) :
    methodCallForm (es.length + ([] : List Keyword).length) (backTo pos (starEach es env)) (backToKw pos (keywordEach [] env)) = true := by
  unfold methodCallForm
  rw [stars_form hes]
  show (true && true && decide (es.length + 0 + 0 < 30)) = true
  rw [decide_eq_true (by omega)]
  rfl
theorem meth_eval {o : Expr} {m : Str} {apos pos : Pos} {es : List Expr} {env : Env} (hbase : baseB o = true) (hes : es.all plainB = true) (hline : (apos.endLine == pos.line) = true) (hlen : es.length < 20) :
    eval (.Call (.Attribute o m apos) es [] pos) env = (do
      let ov ← eval o env
      standAt apos.atName
      let (f, first) ← holding [ov] (getMethod ov m (plainOf o env))
      callWith pos f first (backTo pos (starEach es env)) (backToKw pos (keywordEach [] env))) := by
  show (do
      let ov ← attributeBase o m env (eval o env)
      standAt apos.atName
      methodCall o m apos pos env ov (es.length + ([] : List Keyword).length) (backTo pos (starEach es env)) (backToKw pos (keywordEach [] env))) = _
  rw [base_plain hbase]
  simp only [mcall_line (meth_form hes hlen) hline]
/-- o.m(..), the class by the value -/
theorem pe_methD (he : PE X o ta) (ha : PA X (e :: es) t) (hx : ∀ σ, PassesAt CX X σ (E σ)) (hbase : baseB o = true) (hes : (e :: es).all plainB = true) (hline : (apos.endLine == pos.line) = true) (hlen : (e :: es).length < 20) :
    PE X (.Call (.Attribute o m apos) (e :: es) [] pos) (fun σ H Q => ta σ H fun x H1 => ∃ (a C dx : Addr) (fs : List (Str × V)) (g : Addr) (fd : FuncData) (ps : List Str) (sp : Sp) (k : Nat), x = .ref a ∧ H1 a = some (.ins C dx fs) ∧ Cls X.K C ∧ Meth X.K C m g ∧ fs.lookup m = none ∧
      FnG X.prog X.w X.K X.mg X.base CX k g fd ps sp ∧ RoomG k X.A ∧ Binds X.K fd ps [] ∧ t σ H1 fun vs H2 => sp (x :: vs) H2 Q (E σ)) := by
  refine ⟨fun pins s σ H Q I h => ?_⟩
  refine PySem.W.methodCall_KW (pl := plainOf o X.env) (thn (he.run pins s σ H _ I h) fun u s1 ⟨x, H1, I1, rx, a, C, dx, fs, g, fd, ps, sp, k, ex, ea, c, hm, l, F, hr, hb, q⟩ => ?_) (meth_eval hbase hes hline hlen)
  subst ex
  obtain rfl : u = Value.ref a := rx
  refine getmeth_ok I1 ea c hm l ?_
  rw [List.all_cons, Bool.and_eq_true] at hes
  refine PySem.W.callWith_K (first := [.ref a]) (h₀ := X.base) I.ok.mod.kin hm.kp (thn (ha.run pos pins s1 σ H1 _ I1 q) fun us s2 ⟨vs, H2, I2, r, q2⟩ => ⟨I2.kIn, ?_⟩) (star_plain hes.1 _ _) (stars_any hes.2 _ _)
  exact run_fnG (us := .ref a :: us) (vs := .ref a :: vs) F hr hb (hx σ) I2 (.cons rfl r) q2
theorem pe_methD0 (he : PE X o ta) (hx : ∀ σ, PassesAt CX X σ (E σ)) (hbase : baseB o = true) (hline : (apos.endLine == pos.line) = true) :
    PE X (.Call (.Attribute o m apos) [] [] pos) (fun σ H Q => ta σ H fun x H1 => ∃ (a C dx : Addr) (fs : List (Str × V)) (g : Addr) (fd : FuncData) (ps : List Str) (sp : Sp) (k : Nat), x = .ref a ∧ H1 a = some (.ins C dx fs) ∧ Cls X.K C ∧ Meth X.K C m g ∧ fs.lookup m = none ∧
      FnG X.prog X.w X.K X.mg X.base CX k g fd ps sp ∧ RoomG k X.A ∧ Binds X.K fd ps [] ∧ sp [x] H1 Q (E σ)) := by
  refine ⟨fun pins s σ H Q I h => ?_⟩
  refine PySem.W.methodCall_KW (pl := plainOf o X.env) (thn (he.run pins s σ H _ I h) fun u s1 ⟨x, H1, I1, rx, a, C, dx, fs, g, fd, ps, sp, k, ex, ea, c, hm, l, F, hr, hb, q⟩ => ?_) (meth_eval hbase rfl hline (by decide))
  subst ex
  obtain rfl : u = Value.ref a := rx
  refine getmeth_ok I1 ea c hm l ?_
  exact PySem.W.callWith_K0 (first := [.ref a]) I1.kIn hm.kp (run_fnG (us := [.ref a]) (vs := [.ref a]) F hr hb (hx σ) I1 (.cons rfl .nil) q)
end
end PC
namespace PC
open PySem PySem.Spec PyProof.Rows L2
variable {G : Glb} {X : Cx} {W : WX}
/-! ### freezing an argument, keeping -/
theorem fza_ok {w0 w : Wd} {t : T} {v : V} {F : List Addr} {t' : T} {st' : Store} (ok : w.Ok G) (h : w.RO G v t F) (ow : Own w0 w F) (e : fza t w.st = some (t', st')) :
    ∃ w', w'.st = st' ∧ Mv G w w' F ∧ w'.R0 G v t' := by
  unfold fza at e
  split at e
  · simp only [Option.some.injEq, Prod.mk.injEq] at e
    obtain ⟨rfl, rfl⟩ := e
    cases h with
    | of0 h => exact ⟨w, rfl, Mv.refl ok, h⟩
  · simp only [Option.some.injEq, Prod.mk.injEq] at e
    obtain ⟨rfl, rfl⟩ := e
    cases h with
    | of0 h => exact ⟨w, rfl, Mv.refl ok, h⟩
  · obtain ⟨w', a, b, c⟩ := fz_ok _ ok h ow e
    exact ⟨w', a, b, .cl c⟩
theorem fzas_ok {w0 : Wd} : ∀ {ts : List T} {w : Wd} {vs : List V} {F : List Addr} {ts' : List T} {st' : Store}, w.Ok G → w.ROs G vs ts F → Own w0 w F → fzasR ts w.st = .ok ts' st' →
    ∃ w', w'.st = st' ∧ Mv G w w' F ∧ w'.R0s G vs ts'
  | [], w, vs, F, ts', st', ok, h, ow, e => by
    simp only [fzasR, R.ok.injEq] at e
    obtain ⟨rfl, rfl⟩ := e
    cases h
    exact ⟨w, rfl, Mv.refl ok, .nil⟩
  | t :: ts, w, vs, F, ts', st', ok, h, ow, e => by
    simp only [fzasR, fzaR] at e
    cases h with
    | cons h hs =>
      rename_i v vs F1 F2
      cases q1 : fza t w.st with
      | none => rw [q1] at e; cases e
      | some z =>
        obtain ⟨y, st1⟩ := z
        simp only [q1, R.bind] at e
        cases q2 : fzasR ts st1 with
        | exc c st2 => rw [q2] at e; cases e
        | bad => rw [q2] at e; cases e
        | ok ys st2 =>
          rw [q2] at e
          simp only [R.bind, R.ok.injEq] at e
          obtain ⟨rfl, rfl⟩ := e
          have dj := List.nodup_append.mp ow.nd
          obtain ⟨w1, z1, m1, c1⟩ := fza_ok ok h (ow.sub (List.sublist_append_left _ _)) q1
          subst z1
          have ow2 : Own w0 w1 F2 := m1.own (ow.sub (List.sublist_append_right _ _)) fun a ha hb => dj.2.2 a hb a ha rfl
          obtain ⟨w2, z2, m2, c2⟩ := fzas_ok m1.ok (m1.ros hs) ow2 q2
          exact ⟨w2, z2, m1.trans m2, .cons (m2.r0 c1) c2⟩
theorem fzas_R : ∀ (ts : List T) (st : Store), (∃ ts' st', fzasR ts st = .ok ts' st') ∨ fzasR ts st = .bad
  | [], st => .inl ⟨[], st, rfl⟩
  | t :: ts, st => by
    simp only [fzasR, fzaR]
    cases fza t st with
    | none => exact .inr rfl
    | some z =>
      obtain ⟨y, st1⟩ := z
      simp only [R.bind]
      rcases fzas_R ts st1 with ⟨ts', st', q⟩ | q
      · exact .inl ⟨_, _, by rw [q]⟩
      · exact .inr (by rw [q])
structure Gw (G : Glb) (w w' : Wd) (F : List Addr) : Prop where
  H : w'.H = w.H
  r : ∃ m, w'.r = w.r ++ m ∧ ∀ a ∈ m, a ∈ F
  s1 : ∀ a, w.S a → w'.S a
  s2 : ∀ a, w'.S a → w.S a ∨ a ∈ F ∨ Live w a
  live : ∀ a, Live w' a → Live w a ∨ a ∈ F
  ok : w'.Ok G
theorem Mv.gw {w w' : Wd} {F : List Addr} (m : Mv G w w' F) : Gw G w w' F := ⟨m.H, ⟨[], by rw [m.r, List.append_nil], by simp⟩, m.s1, m.s2, fun a l => .inl (m.live a l), m.ok⟩
theorem Gw.trans {w w1 w2 : Wd} {F F' : List Addr} (a : Gw G w w1 F) (b : Gw G w1 w2 F') : Gw G w w2 (F ++ F') := by
  obtain ⟨m1, e1, n1⟩ := a.r
  obtain ⟨m2, e2, n2⟩ := b.r
  refine ⟨b.H.trans a.H, ⟨m1 ++ m2, by rw [e2, e1, List.append_assoc], fun x hx => ?_⟩, fun x s => b.s1 x (a.s1 x s), fun x s => ?_, fun x l => ?_, b.ok⟩
  · rcases List.mem_append.mp hx with h | h
    · exact List.mem_append_left _ (n1 x h)
    · exact List.mem_append_right _ (n2 x h)
  · rcases b.s2 x s with h | h | h
    · rcases a.s2 x h with h | h | h
      · exact .inl h
      · exact .inr (.inl (List.mem_append_left _ h))
      · exact .inr (.inr h)
    · exact .inr (.inl (List.mem_append_right _ h))
    · rcases a.live x h with h | h
      · exact .inr (.inr h)
      · exact .inr (.inl (List.mem_append_left _ h))
  · rcases b.live x l with h | h
    · rcases a.live x h with h | h
      · exact .inl h
      · exact .inr (List.mem_append_left _ h)
    · exact .inr (List.mem_append_right _ h)
theorem Gw.ev {w0 w w' : Wd} {F : List Addr} (g : Gw G w w' F) (e : Ev w0 w) (n : ∀ a ∈ F, w0.H a = none) : Ev w0 w' := by
  obtain ⟨m, em, nm⟩ := g.r
  obtain ⟨m0, e0, n0⟩ := e.rho
  refine ⟨⟨m0 ++ m, by rw [em, e0, List.append_assoc], fun a ha => ?_⟩, fun a s => g.s1 a (e.s1 a s), fun a s => ?_, fun a o h nl => by rw [g.H]; exact e.keep a o h nl, fun a o h => by rw [g.H]; exact e.there a o h, fun a l => ?_⟩
  · rcases List.mem_append.mp ha with h | h
    · exact n0 a h
    · exact n a (nm a h)
  · rcases g.s2 a s with h | h | h
    · exact e.s2 a h
    · exact .inr (.inl (n a h))
    · rcases e.live a h with h | h
      · exact .inr (.inr h)
      · exact .inr (.inl h)
  · rcases g.live a l with h | h
    · exact e.live a h
    · exact .inr (n a h)
theorem Gw.rget {w w' : Wd} {F : List Addr} (g : Gw G w w' F) (i : Nat) (a : Addr) (h : w.r[i]? = some a) : w'.r[i]? = some a := by
  obtain ⟨m, q, _⟩ := g.r
  rw [q, List.getElem?_append_left (List.getElem?_eq_some_iff.mp h).1]
  exact h
theorem Gw.r0 {w w' : Wd} {F : List Addr} (g : Gw G w w' F) {v : V} {t : T} (h : w.R0 G v t) : w'.R0 G v t := by
  show Rep0 G w'.H w'.S w'.r v t
  rw [g.H]
  exact Rep0.mono g.s1 (fun _ _ _ q => q) g.rget h
theorem Gw.r0s' {w w' : Wd} {F : List Addr} (g : Gw G w w' F) {v : List V} {t : List T} (h : w.R0s G v t) : w'.R0s G v t := by
  show Rep0s G w'.H w'.S w'.r v t
  rw [g.H]
  exact Rep0s.mono g.s1 (fun _ _ _ q => q) g.rget h
theorem Gw.ros {w w' : Wd} {F F' : List Addr} (g : Gw G w w' F) {v : List V} {t : List T} (h : w.ROs G v t F') : w'.ROs G v t F' := by
  show RepOs G w'.H w'.S w'.r v t F'
  rw [g.H]
  exact RepOs.mono g.s1 (fun _ _ _ q => q) g.rget (fun _ _ _ q => q) h
theorem Gw.own {w0 w w' : Wd} {F F' : List Addr} (g : Gw G w w' F) (o : Own w0 w F') (d : ∀ a ∈ F', a ∉ F) : Own w0 w' F' := by
  obtain ⟨m, em, nm⟩ := g.r
  refine ⟨o.nd, o.new, fun a ha s => ?_, fun a ha h => ?_⟩
  · rcases g.s2 a s with h | h | h
    · exact o.ns a ha h
    · exact d a ha h
    · exact o.nr a ha h.mem
  · rw [em] at h
    rcases List.mem_append.mp h with h | h
    · exact o.nr a ha h
    · exact d a ha (nm a h)
/-- the thing at a becomes a cell -/
theorem Gw.cell {w : Wd} (ok : w.Ok G) {a : Addr} {t : T} (hr : a ∉ w.r) (tr : ∃ o, w.H a = some o) (c : CellOk G ⟨w.H, w.r ++ [a], w.st ++ [t], w.S⟩ w.st.length a t) :
    Gw G w ⟨w.H, w.r ++ [a], w.st ++ [t], w.S⟩ [a] := by
  have lt : ∀ (k : Nat) (b : Addr), (w.r ++ [a])[k]? = some b → (k < w.r.length ∧ w.r[k]? = some b) ∨ (k = w.r.length ∧ b = a) := fun k b h => by
    by_cases hk : k < w.r.length
    · rw [List.getElem?_append_left hk] at h
      exact .inl ⟨hk, h⟩
    · rw [List.getElem?_append_right (Nat.le_of_not_lt hk)] at h
      have hl := (List.getElem?_eq_some_iff.mp h).1
      simp at hl
      have e : k = w.r.length := by omega
      subst e
      simp at h
      exact .inr ⟨rfl, h.symm⟩
  refine ⟨rfl, ⟨[a], rfl, by simp⟩, fun _ s => s, fun _ s => .inl s, fun b l => ?_, ?_⟩
  · obtain ⟨k, g, o, xs, h1, h2, h3⟩ := l
    rcases lt k b h1 with ⟨hk, q⟩ | ⟨hk, q⟩
    · have h2' : (w.st ++ [t])[k]? = some (.nd g o xs) := h2
      rw [List.getElem?_append_left (by rw [← ok.len]; exact hk)] at h2'
      exact .inl ⟨k, g, o, xs, q, h2', h3⟩
    · exact .inr (by simp [q])
  · refine ⟨by simp [ok.len], ?_, fun k b u h1 h2 => ?_, ok.trk⟩
    · rw [List.nodup_append]
      refine ⟨ok.nd, by simp, fun x hx y hy e => ?_⟩
      simp at hy
      subst e hy
      exact hr hx
    · rcases lt k b h1 with ⟨hk, q⟩ | ⟨hk, q⟩
      · have h2' : (w.st ++ [t])[k]? = some u := h2
        rw [List.getElem?_append_left (by rw [← ok.len]; exact hk)] at h2'
        refine CellOk.mono (w := w) (w' := ⟨w.H, w.r ++ [a], w.st ++ [t], w.S⟩) (fun _ s => s) (fun n => n) (fun _ _ _ z => z) (fun _ z => z) (fun i x hx => ?_) (ok.cells k b u q h2')
        have hx' : (w.r.take k)[i]? = some x := hx
        show ((w.r ++ [a]).take k)[i]? = some x
        rw [List.take_append_of_le_length (Nat.le_of_lt hk)]
        exact hx'
      · subst hk q
        have h2' : (w.st ++ [t])[w.r.length]? = some u := h2
        rw [ok.len, List.getElem?_append_right (Nat.le_refl _)] at h2'
        simp at h2'
        subst h2'
        rw [ok.len]
        exact c
theorem ref_last {w : Wd} (ok : w.Ok G) {a : Addr} {t : T} : Wd.R0 G ⟨w.H, w.r ++ [a], w.st ++ [t], w.S⟩ (.ref a) (.ref w.st.length) := by
  refine .ref ?_
  show (w.r ++ [a])[w.st.length]? = some a
  rw [← ok.len, List.getElem?_append_right (Nat.le_refl _)]
  simp
mutual
theorem kp_ok {w0 : Wd} : ∀ (d : Nat) (t : T) {w : Wd} {v : V} {F : List Addr} {t' : T} {st' : Store}, w.Ok G → w.RO G v t F → Own w0 w F → kp d t w.st = some (t', st') →
    ∃ w', w'.st = st' ∧ Gw G w w' F ∧ w'.R0 G v t'
  | 0, t, w, v, F, t', st', ok, h, ow, e => by
    have e : fza t w.st = some (t', st') := by simpa only [kp] using e
    obtain ⟨w', a, b, c⟩ := fza_ok ok h ow e
    exact ⟨w', a, b.gw, c⟩
  | d + 1, .nd g o xs, w, v, F, t', st', ok, h, ow, e => by
    have oth : ∀ {o : Ow}, w.RO G v (.nd g o xs) F → fza (.nd g o xs) w.st = some (t', st') → ∃ w', w'.st = st' ∧ Gw G w w' F ∧ w'.R0 G v t' := fun {o} h e => by
      obtain ⟨w', a, b, c⟩ := fza_ok ok h ow e
      exact ⟨w', a, b.gw, c⟩
    cases o with
    | own =>
      simp only [kp, Option.some.injEq, Prod.mk.injEq] at e
      obtain ⟨rfl, rfl⟩ := e
      cases h with
      | of0 h => cases h with | cl h => cases h
      | own h c =>
        rename_i a vs
        exact ⟨_, rfl, Gw.cell (t := .nd g .own xs) ok (ow.nr a (by simp)) h.trk ⟨ow.ns a (by simp), vs, h, c⟩, ref_last ok⟩
    | opn =>
      cases h with
      | of0 h => cases h with | cl h => cases h
      | opn h c =>
        rename_i a vs F1
        have ow1 : Own w0 w F1 := ow.sub (List.sublist_cons_self _ _)
        have na : a ∉ F1 := (List.nodup_cons.mp ow.nd).1
        have lift : ∀ {ys : List T} {st1 : Store}, kps d xs w.st = some (ys, st1) → ∃ w', w'.st = st1 ++ [.nd g .opn ys] ∧ Gw G w w' (a :: F1) ∧ w'.R0 G (.ref a) (.ref st1.length) := fun {ys st1} e1 => by
          obtain ⟨w1, q1, g1, c1⟩ := kps_ok d xs ok c ow1 e1
          subst q1
          have h1 : AtM G w1.H a g vs := by rw [g1.H]; exact h
          have ow2 : Own w0 w1 [a] := g1.own (ow.sub (by simp)) (by simpa using na)
          have g2 : Gw G w1 ⟨w1.H, w1.r ++ [a], w1.st ++ [.nd g .opn ys], w1.S⟩ [a] := Gw.cell (t := .nd g .opn ys) g1.ok (ow2.nr a (by simp)) h1.trk ⟨ow2.ns a (by simp), vs, h1, by
            show Rep0s G w1.H w1.S ((w1.r ++ [a]).take w1.st.length) vs ys
            rw [← g1.ok.len, List.take_append_of_le_length (Nat.le_refl _), List.take_length]
            exact c1⟩
          refine ⟨_, rfl, ?_, ref_last g1.ok⟩
          have g3 := g1.trans g2
          refine ⟨g3.H, ?_, g3.s1, fun x s => ?_, fun x l => ?_, g3.ok⟩
          · obtain ⟨m, em, nm⟩ := g3.r
            exact ⟨m, em, fun x hx => by have := nm x hx; simp at this ⊢; exact this.symm⟩
          · have := g3.s2 x s
            simp at this ⊢
            rcases this with z | z | z
            · exact .inl z
            · exact .inr (.inl z.symm)
            · exact .inr (.inr z)
          · have := g3.live x l
            simp at this ⊢
            rcases this with z | z
            · exact .inl z
            · exact .inr z.symm
        have go : ∀ {ys : List T} {st1 : Store}, kps d xs w.st = some (ys, st1) → (some (T.ref st1.length, st1 ++ [T.nd g .opn ys]) = some (t', st')) → ∃ w', w'.st = st' ∧ Gw G w w' (a :: F1) ∧ w'.R0 G (.ref a) t' := fun {ys st1} e1 e => by
          simp only [Option.some.injEq, Prod.mk.injEq] at e
          obtain ⟨rfl, rfl⟩ := e
          exact lift e1
        cases g with
        | tup =>
          simp only [kp] at e
          split at e
          · rename_i ys st1 e1
            split at e
            · exact go e1 e
            · simp only [Option.some.injEq, Prod.mk.injEq] at e
              obtain ⟨rfl, rfl⟩ := e
              obtain ⟨w1, q1, g1, c1⟩ := kps_ok d xs ok c ow1 e1
              subst q1
              have h1 : AtM G w1.H a .tup vs := by rw [g1.H]; exact h
              have ow2 : Own w0 w1 [a] := g1.own (ow.sub (by simp)) (by simpa using na)
              have m2 : Mv G w1 (w1.addS a) [a] := Mv.addS g1.ok h1.trk (ow2.nr a (by simp))
              have g3 := g1.trans m2.gw
              refine ⟨w1.addS a, rfl, ⟨g3.H, ?_, g3.s1, fun x s => ?_, fun x l => ?_, g3.ok⟩, .fzr (.inr rfl) h1.f (Rep0s.mono (fun _ s => .inl s) (fun _ _ _ z => z) (fun _ _ z => z) c1)⟩
              · obtain ⟨m, em, nm⟩ := g3.r
                exact ⟨m, em, fun x hx => by have := nm x hx; simp at this ⊢; exact this.symm⟩
              · have := g3.s2 x s
                simp at this ⊢
                rcases this with z | z | z
                · exact .inl z
                · exact .inr (.inl z.symm)
                · exact .inr (.inr z)
              · have := g3.live x l
                simp at this ⊢
                rcases this with z | z
                · exact .inl z
                · exact .inr z.symm
          · cases e
        | lst =>
          simp only [kp] at e
          split at e
          · rename_i ys st1 e1
            exact go e1 e
          · cases e
        | scr => exact h.elim
        | dic ks =>
          simp only [kp] at e
          split at e
          · rename_i ys st1 e1
            exact go e1 e
          · cases e
        | obj cc fn =>
          simp only [kp] at e
          split at e
          · rename_i ys st1 e1
            exact go e1 e
          · cases e
    | fz => exact oth h (by simpa only [kp] using e)
    | fzr => exact oth h (by simpa only [kp] using e)
    | lk => exact oth h (by simpa only [kp] using e)
    | lkx => exact oth h (by simpa only [kp] using e)
  | d + 1, .non, w, v, F, t', st', ok, h, ow, e => by
    obtain ⟨w', a, b, c⟩ := fza_ok ok h ow (by simpa only [kp] using e)
    exact ⟨w', a, b.gw, c⟩
  | d + 1, .bl b, w, v, F, t', st', ok, h, ow, e => by
    obtain ⟨w', a, b, c⟩ := fza_ok ok h ow (by simpa only [kp] using e)
    exact ⟨w', a, b.gw, c⟩
  | d + 1, .int b, w, v, F, t', st', ok, h, ow, e => by
    obtain ⟨w', a, b, c⟩ := fza_ok ok h ow (by simpa only [kp] using e)
    exact ⟨w', a, b.gw, c⟩
  | d + 1, .str b, w, v, F, t', st', ok, h, ow, e => by
    obtain ⟨w', a, b, c⟩ := fza_ok ok h ow (by simpa only [kp] using e)
    exact ⟨w', a, b.gw, c⟩
  | d + 1, .exc b, w, v, F, t', st', ok, h, ow, e => by
    obtain ⟨w', a, b, c⟩ := fza_ok ok h ow (by simpa only [kp] using e)
    exact ⟨w', a, b.gw, c⟩
  | d + 1, .ref b, w, v, F, t', st', ok, h, ow, e => by
    obtain ⟨w', a, b, c⟩ := fza_ok ok h ow (by simpa only [kp] using e)
    exact ⟨w', a, b.gw, c⟩
theorem kps_ok {w0 : Wd} : ∀ (d : Nat) (ts : List T) {w : Wd} {vs : List V} {F : List Addr} {ts' : List T} {st' : Store}, w.Ok G → w.ROs G vs ts F → Own w0 w F → kps d ts w.st = some (ts', st') →
    ∃ w', w'.st = st' ∧ Gw G w w' F ∧ w'.R0s G vs ts'
  | d, [], w, vs, F, ts', st', ok, h, ow, e => by
    simp only [kps, Option.some.injEq, Prod.mk.injEq] at e
    obtain ⟨rfl, rfl⟩ := e
    cases h
    exact ⟨w, rfl, (Mv.refl ok).gw, .nil⟩
  | d, t :: ts, w, vs, F, ts', st', ok, h, ow, e => by
    simp only [kps] at e
    cases h with
    | cons h hs =>
      rename_i v vs F1 F2
      split at e
      · rename_i y st1 e1
        split at e
        · rename_i ys st2 e2
          simp only [Option.some.injEq, Prod.mk.injEq] at e
          obtain ⟨rfl, rfl⟩ := e
          have dj := List.nodup_append.mp ow.nd
          obtain ⟨w1, q1, g1, c1⟩ := kp_ok d t ok h (ow.sub (List.sublist_append_left _ _)) e1
          subst q1
          have ow2 : Own w0 w1 F2 := g1.own (ow.sub (List.sublist_append_right _ _)) fun a ha hb => dj.2.2 a hb a ha rfl
          obtain ⟨w2, q2, g2, c2⟩ := kps_ok d ts g1.ok (g1.ros hs) ow2 e2
          exact ⟨w2, q2, g1.trans g2, .cons (g2.r0 c1) c2⟩
        · cases e
      · cases e
end
end PC
namespace PC
open PySem PySem.Spec PyProof.Rows L2
/-! ### what the text is -/
theorem no {b : Bool} {C : Prop} (h : b = true) (e : b = false) : C := by rw [e] at h; cases h
section
variable {tb : Tab} {N : List Str} {sc : Scope} {p : Expr}
theorem lit_of {t : T} {c : Const} (h : (match litOf c with
    | some u => eqLit t u
    | none => false) = true) : litOf c = some t := by
  split at h
  · rename_i u q
    rw [q, eqLit_eq h]
  · cases h
theorem inv_lit {t : T} (h : mE tb N sc (.lit t) p = true) : ∃ c j pos, p = .Constant c j pos ∧ litOf c = some t := by
  cases p <;> try exact no h rfl
  exact ⟨_, _, _, rfl, lit_of h⟩
theorem inv_litT {t : T} (h : mT tb N sc (.lit t) p = true) : ∃ c j pos, p = .Constant c j pos ∧ litOf c = some t := by
  cases p <;> try exact no h rfl
  exact ⟨_, _, _, rfl, lit_of h⟩
theorem inv_var {i : Nat} (h : mE tb N sc (.var i) p = true) : ∃ x pos, p = .Name x pos ∧ nameB N sc i x = true := by
  cases p <;> try exact no h rfl
  exact ⟨_, _, rfl, h⟩
theorem inv_varT {i : Nat} (h : mT tb N sc (.var i) p = true) : ∃ x pos, p = .Name x pos ∧ nameB N sc i x = true := by
  cases p <;> try exact no h rfl
  exact ⟨_, _, rfl, h⟩
theorem inv_glb {x : Str} {t : T} (h : mE tb N sc (.glb x t) p = true) : ∃ pos, p = .Name x pos ∧ glB sc x = true ∧ ∃ q ∈ tb.cst, q.1 = x ∧ q.2 = t := by
  cases p <;> try exact no h rfl
  rename_i y pos
  have h : (decide (x = y) && glB sc x && tb.cst.any fun q => decide (q.1 = x) && eqLit t q.2) = true := h
  simp only [Bool.and_eq_true, decide_eq_true_eq, List.any_eq_true] at h
  obtain ⟨⟨rfl, h1⟩, q, hq, h2, h3⟩ := h
  exact ⟨pos, rfl, h1, q, hq, h2, (eqLit_eq h3).symm⟩
theorem inv_bin {op : Operator} {a b : E} (h : mE tb N sc (.bin op a b) p = true) : ∃ ea eb pos, p = .BinOp ea op eb pos ∧ mE tb N sc a ea = true ∧ mE tb N sc b eb = true := by
  cases p <;> try exact no h rfl
  rename_i ea op' eb pos
  have h : (decide (op = op') && mE tb N sc a ea && mE tb N sc b eb) = true := h
  simp only [Bool.and_eq_true, decide_eq_true_eq] at h
  obtain ⟨⟨rfl, h1⟩, h2⟩ := h
  exact ⟨_, _, _, rfl, h1, h2⟩
theorem inv_neg {a : E} (h : mE tb N sc (.neg a) p = true) : ∃ ea pos, p = .UnaryOp .USub ea pos ∧ mE tb N sc a ea = true := by
  cases p <;> try exact no h rfl
  rename_i op ea pos
  cases op <;> try exact no h rfl
  exact ⟨_, _, rfl, h⟩
theorem inv_not {a : E} (h : mE tb N sc (.not a) p = true) : ∃ ea pos, p = .UnaryOp .Not ea pos ∧ mE tb N sc a ea = true := by
  cases p <;> try exact no h rfl
  rename_i op ea pos
  cases op <;> try exact no h rfl
  exact ⟨_, _, rfl, h⟩
theorem inv_notT {a : E} (h : mT tb N sc (.not a) p = true) : ∃ ea pos, p = .UnaryOp .Not ea pos ∧ mT tb N sc a ea = true := by
  cases p <;> try exact no h rfl
  rename_i op ea pos
  cases op <;> try exact no h rfl
  exact ⟨_, _, rfl, h⟩
theorem inv_cmp {op : CmpOp} {a b : E} (h : mE tb N sc (.cmp op a b) p = true) : ∃ ea eb pos, p = .Compare ea [op] [eb] pos ∧ mE tb N sc a ea = true ∧ mE tb N sc b eb = true ∧ behindInMarks op eb = false := by
  cases p <;> try exact no h rfl
  rename_i ea ops cs pos
  cases ops with
  | nil => exact no h rfl
  | cons op' r =>
    cases r with
    | cons _ r => cases r <;> cases cs <;> exact no h rfl
    | nil =>
      cases cs with
      | nil => exact no h rfl
      | cons eb r =>
        cases r with
        | cons _ _ => exact no h rfl
        | nil =>
          have h : (decide (op = op') && mE tb N sc a ea && mE tb N sc b eb && !(behindInMarks op eb)) = true := h
          simp only [Bool.and_eq_true, decide_eq_true_eq, Bool.not_eq_true'] at h
          obtain ⟨⟨⟨rfl, h1⟩, h2⟩, h3⟩ := h
          exact ⟨ea, eb, pos, rfl, h1, h2, h3⟩
theorem inv_cmpT {op : CmpOp} {a b : E} (h : mT tb N sc (.cmp op a b) p = true) : ∃ ea eb pos, p = .Compare ea [op] [eb] pos ∧ mE tb N sc a ea = true ∧ mE tb N sc b eb = true ∧ behindInMarks op eb = false := by
  cases p <;> try exact no h rfl
  rename_i ea ops cs pos
  cases ops with
  | nil => exact no h rfl
  | cons op' r =>
    cases r with
    | cons _ r => cases r <;> cases cs <;> exact no h rfl
    | nil =>
      cases cs with
      | nil => exact no h rfl
      | cons eb r =>
        cases r with
        | cons _ _ => exact no h rfl
        | nil =>
          have h : (decide (op = op') && mE tb N sc a ea && mE tb N sc b eb && !(behindInMarks op eb)) = true := h
          simp only [Bool.and_eq_true, decide_eq_true_eq, Bool.not_eq_true'] at h
          obtain ⟨⟨⟨rfl, h1⟩, h2⟩, h3⟩ := h
          exact ⟨ea, eb, pos, rfl, h1, h2, h3⟩
theorem inv_chain {op op' : CmpOp} {a b c : E} (h : mE tb N sc (.chain op op' a b c) p = true) : ∃ ea eb ec pos, p = .Compare ea [op, op'] [eb, ec] pos ∧ mE tb N sc a ea = true ∧ mE tb N sc b eb = true ∧ mE tb N sc c ec = true ∧ lastMarks [op, op'] [eb, ec] = false := by
  cases p <;> try exact no h rfl
  rename_i ea ops cs pos
  cases ops with
  | nil => exact no h rfl
  | cons o1 r =>
    cases r with
    | nil => cases cs <;> exact no h rfl
    | cons o2 r =>
      cases r with
      | cons _ r => cases cs <;> exact no h rfl
      | nil =>
        cases cs with
        | nil => exact no h rfl
        | cons eb r =>
          cases r with
          | nil => exact no h rfl
          | cons ec r =>
            cases r with
            | cons _ _ => exact no h rfl
            | nil =>
              have h : (decide (op = o1) && decide (op' = o2) && mE tb N sc a ea && mE tb N sc b eb && mE tb N sc c ec && !(lastMarks [o1, o2] [eb, ec])) = true := h
              simp only [Bool.and_eq_true, decide_eq_true_eq, Bool.not_eq_true'] at h
              obtain ⟨⟨⟨⟨⟨rfl, rfl⟩, h1⟩, h2⟩, h3⟩, h4⟩ := h
              exact ⟨ea, eb, ec, pos, rfl, h1, h2, h3, h4⟩
theorem inv_chainT {op op' : CmpOp} {a b c : E} (h : mT tb N sc (.chain op op' a b c) p = true) : ∃ ea eb ec pos, p = .Compare ea [op, op'] [eb, ec] pos ∧ mE tb N sc a ea = true ∧ mE tb N sc b eb = true ∧ mE tb N sc c ec = true ∧ lastMarks [op, op'] [eb, ec] = false := by
  cases p <;> try exact no h rfl
  rename_i ea ops cs pos
  cases ops with
  | nil => exact no h rfl
  | cons o1 r =>
    cases r with
    | nil => cases cs <;> exact no h rfl
    | cons o2 r =>
      cases r with
      | cons _ r => cases cs <;> exact no h rfl
      | nil =>
        cases cs with
        | nil => exact no h rfl
        | cons eb r =>
          cases r with
          | nil => exact no h rfl
          | cons ec r =>
            cases r with
            | cons _ _ => exact no h rfl
            | nil =>
              have h : (decide (op = o1) && decide (op' = o2) && mE tb N sc a ea && mE tb N sc b eb && mE tb N sc c ec && !(lastMarks [o1, o2] [eb, ec])) = true := h
              simp only [Bool.and_eq_true, decide_eq_true_eq, Bool.not_eq_true'] at h
              obtain ⟨⟨⟨⟨⟨rfl, rfl⟩, h1⟩, h2⟩, h3⟩, h4⟩ := h
              exact ⟨ea, eb, ec, pos, rfl, h1, h2, h3, h4⟩
theorem inv_and {a b : E} (h : mE tb N sc (.and a b) p = true) : ∃ ea eb es pos, p = .BoolOp .And (ea :: eb :: es) pos ∧ mE tb N sc a ea = true ∧ ((es = [] ∧ mE tb N sc b eb = true) ∨ (es ≠ [] ∧ mE tb N sc b (.BoolOp .And (eb :: es) pos) = true)) := by
  cases p <;> try exact no h rfl
  rename_i op es pos
  cases op <;> try exact no h rfl
  cases es with
  | nil => exact no h rfl
  | cons ea r =>
    cases r with
    | nil => exact no h rfl
    | cons eb es =>
      cases es with
      | nil =>
        have h : (mE tb N sc a ea && mE tb N sc b eb) = true := h
        simp only [Bool.and_eq_true] at h
        exact ⟨_, _, _, _, rfl, h.1, .inl ⟨rfl, h.2⟩⟩
      | cons ec es =>
        have h : (mE tb N sc a ea && mE tb N sc b (.BoolOp .And (eb :: ec :: es) pos)) = true := h
        simp only [Bool.and_eq_true] at h
        exact ⟨_, _, _, _, rfl, h.1, .inr ⟨by simp, h.2⟩⟩
theorem inv_or {a b : E} (h : mE tb N sc (.or a b) p = true) : ∃ ea eb es pos, p = .BoolOp .Or (ea :: eb :: es) pos ∧ mE tb N sc a ea = true ∧ ((es = [] ∧ mE tb N sc b eb = true) ∨ (es ≠ [] ∧ mE tb N sc b (.BoolOp .Or (eb :: es) pos) = true)) := by
  cases p <;> try exact no h rfl
  rename_i op es pos
  cases op <;> try exact no h rfl
  cases es with
  | nil => exact no h rfl
  | cons ea r =>
    cases r with
    | nil => exact no h rfl
    | cons eb es =>
      cases es with
      | nil =>
        have h : (mE tb N sc a ea && mE tb N sc b eb) = true := h
        simp only [Bool.and_eq_true] at h
        exact ⟨_, _, _, _, rfl, h.1, .inl ⟨rfl, h.2⟩⟩
      | cons ec es =>
        have h : (mE tb N sc a ea && mE tb N sc b (.BoolOp .Or (eb :: ec :: es) pos)) = true := h
        simp only [Bool.and_eq_true] at h
        exact ⟨_, _, _, _, rfl, h.1, .inr ⟨by simp, h.2⟩⟩
theorem inv_andT {a b : E} (h : mT tb N sc (.and a b) p = true) : ∃ ea eb es pos, p = .BoolOp .And (ea :: eb :: es) pos ∧ mT tb N sc a ea = true ∧ ((es = [] ∧ mT tb N sc b eb = true) ∨ (es ≠ [] ∧ mT tb N sc b (.BoolOp .And (eb :: es) pos) = true)) := by
  cases p <;> try exact no h rfl
  rename_i op es pos
  cases op <;> try exact no h rfl
  cases es with
  | nil => exact no h rfl
  | cons ea r =>
    cases r with
    | nil => exact no h rfl
    | cons eb es =>
      cases es with
      | nil =>
        have h : (mT tb N sc a ea && mT tb N sc b eb) = true := h
        simp only [Bool.and_eq_true] at h
        exact ⟨_, _, _, _, rfl, h.1, .inl ⟨rfl, h.2⟩⟩
      | cons ec es =>
        have h : (mT tb N sc a ea && mT tb N sc b (.BoolOp .And (eb :: ec :: es) pos)) = true := h
        simp only [Bool.and_eq_true] at h
        exact ⟨_, _, _, _, rfl, h.1, .inr ⟨by simp, h.2⟩⟩
theorem inv_orT {a b : E} (h : mT tb N sc (.or a b) p = true) : ∃ ea eb es pos, p = .BoolOp .Or (ea :: eb :: es) pos ∧ mT tb N sc a ea = true ∧ ((es = [] ∧ mT tb N sc b eb = true) ∨ (es ≠ [] ∧ mT tb N sc b (.BoolOp .Or (eb :: es) pos) = true)) := by
  cases p <;> try exact no h rfl
  rename_i op es pos
  cases op <;> try exact no h rfl
  cases es with
  | nil => exact no h rfl
  | cons ea r =>
    cases r with
    | nil => exact no h rfl
    | cons eb es =>
      cases es with
      | nil =>
        have h : (mT tb N sc a ea && mT tb N sc b eb) = true := h
        simp only [Bool.and_eq_true] at h
        exact ⟨_, _, _, _, rfl, h.1, .inl ⟨rfl, h.2⟩⟩
      | cons ec es =>
        have h : (mT tb N sc a ea && mT tb N sc b (.BoolOp .Or (eb :: ec :: es) pos)) = true := h
        simp only [Bool.and_eq_true] at h
        exact ⟨_, _, _, _, rfl, h.1, .inr ⟨by simp, h.2⟩⟩
theorem inv_ife {c a b : E} (h : mE tb N sc (.ife c a b) p = true) : ∃ ec ea eb pos, p = .IfExp ec ea eb pos ∧ mT tb N sc c ec = true ∧ mE tb N sc a ea = true ∧ mE tb N sc b eb = true := by
  cases p <;> try exact no h rfl
  rename_i ec ea eb pos
  have h : (mT tb N sc c ec && mE tb N sc a ea && mE tb N sc b eb) = true := h
  simp only [Bool.and_eq_true] at h
  exact ⟨_, _, _, _, rfl, h.1.1, h.1.2, h.2⟩
theorem inv_tup {es : Es} (h : mE tb N sc (.tup es) p = true) : ∃ ps k pos, p = .Tuple ps k pos ∧ mEs tb N sc es ps = true := by
  cases p <;> try exact no h rfl
  exact ⟨_, _, _, rfl, h⟩
theorem inv_tupX {es : Es} (h : mE tb N sc (.tupX es) p = true) : ∃ ps k pos, p = .Tuple ps k pos ∧ mEs tb N sc es ps = true := by
  cases p <;> try exact no h rfl
  exact ⟨_, _, _, rfl, h⟩
theorem inv_lst {es : Es} (h : mE tb N sc (.lst es) p = true) : ∃ ps pos, p = .List ps pos ∧ mEs tb N sc es ps = true := by
  cases p <;> try exact no h rfl
  exact ⟨_, _, rfl, h⟩
theorem inv_lstX {es : Es} (h : mE tb N sc (.lstX es) p = true) : ∃ ps pos, p = .List ps pos ∧ mEs tb N sc es ps = true := by
  cases p <;> try exact no h rfl
  exact ⟨_, _, rfl, h⟩
theorem inv_idx {a b : E} (h : mE tb N sc (.idx a b) p = true) : ∃ ea eb pos, p = .Subscript ea eb pos ∧ mE tb N sc a ea = true ∧ mE tb N sc b eb = true ∧ plainB eb = true := by
  cases p <;> try exact no h rfl
  rename_i ea eb pos
  have h : (mE tb N sc a ea && mE tb N sc b eb && plainB eb) = true := h
  simp only [Bool.and_eq_true] at h
  exact ⟨_, _, _, rfl, h.1.1, h.1.2, h.2⟩
theorem inv_idxT {a b : E} (h : mT tb N sc (.idx a b) p = true) : ∃ ea eb pos, p = .Subscript ea eb pos ∧ mE tb N sc a ea = true ∧ mE tb N sc b eb = true ∧ plainB eb = true := by
  cases p <;> try exact no h rfl
  rename_i ea eb pos
  have h : (mE tb N sc a ea && mE tb N sc b eb && plainB eb) = true := h
  simp only [Bool.and_eq_true] at h
  exact ⟨_, _, _, rfl, h.1.1, h.1.2, h.2⟩
theorem inv_slc {a lo hi : E} (h : mE tb N sc (.slc a lo hi) p = true) : ∃ ea l u p2 pos, p = .Subscript ea (.Slice l u none p2) pos ∧ mE tb N sc a ea = true ∧ (match (generalizing := false) l with
    | none => isNop lo
    | some p => mE tb N sc lo p && !(isNop lo)) = true ∧ (match (generalizing := false) u with
    | none => isNop hi
    | some p => mE tb N sc hi p && !(isNop hi)) = true := by
  cases p <;> try exact no h rfl
  rename_i ea eb pos
  cases eb <;> try exact no h rfl
  rename_i l u st p2
  cases st with
  | some _ => exact no h rfl
  | none =>
    have h : (mE tb N sc a ea && (match (generalizing := false) l with
      | none => isNop lo
      | some p => mE tb N sc lo p && !(isNop lo)) && (match (generalizing := false) u with
      | none => isNop hi
      | some p => mE tb N sc hi p && !(isNop hi))) = true := h
    rw [Bool.and_eq_true, Bool.and_eq_true] at h
    exact ⟨_, _, _, _, _, rfl, h.1.1, h.1.2, h.2⟩
theorem inv_call {f : Nat} {es : Es} (h : mE tb N sc (.call f es) p = true) : ∃ x px e ps pos, p = .Call (.Name x px) (e :: ps) [] pos ∧ glB sc x = true ∧ tb.fn[f]? = some (some x) ∧ mEs tb N sc es (e :: ps) = true := by
  cases p <;> try exact no h rfl
  rename_i fn args kw pos
  cases fn <;> try exact no h rfl
  rename_i x px
  cases args with
  | nil => exact no h rfl
  | cons e ps =>
    cases kw with
    | cons _ _ => exact no h rfl
    | nil =>
      have h : (glB sc x && decide (tb.fn[f]? = some (some x)) && mEs tb N sc es (e :: ps)) = true := h
      simp only [Bool.and_eq_true, decide_eq_true_eq] at h
      exact ⟨_, _, _, _, _, rfl, h.1.1, h.1.2, h.2⟩
theorem inv_callT {f : Nat} {es : Es} (h : mT tb N sc (.call f es) p = true) : ∃ x px e ps pos, p = .Call (.Name x px) (e :: ps) [] pos ∧ glB sc x = true ∧ tb.fn[f]? = some (some x) ∧ mEs tb N sc es (e :: ps) = true := by
  cases p <;> try exact no h rfl
  rename_i fn args kw pos
  cases fn <;> try exact no h rfl
  rename_i x px
  cases args with
  | nil => exact no h rfl
  | cons e ps =>
    cases kw with
    | cons _ _ => exact no h rfl
    | nil =>
      have h : (glB sc x && decide (tb.fn[f]? = some (some x)) && mEs tb N sc es (e :: ps)) = true := h
      simp only [Bool.and_eq_true, decide_eq_true_eq] at h
      exact ⟨_, _, _, _, _, rfl, h.1.1, h.1.2, h.2⟩
theorem inv_make {f : Nat} {es : Es} (h : mE tb N sc (.make f es) p = true) : ∃ x px e ps pos, p = .Call (.Name x px) (e :: ps) [] pos ∧ glB sc x = true ∧ tb.cls[f]? = some x ∧ mEs tb N sc es (e :: ps) = true := by
  cases p <;> try exact no h rfl
  rename_i fn args kw pos
  cases fn <;> try exact no h rfl
  rename_i x px
  cases args with
  | nil => exact no h rfl
  | cons e ps =>
    cases kw with
    | cons _ _ => exact no h rfl
    | nil =>
      have h : (glB sc x && decide (tb.cls[f]? = some x) && mEs tb N sc es (e :: ps)) = true := h
      simp only [Bool.and_eq_true, decide_eq_true_eq] at h
      exact ⟨_, _, _, _, _, rfl, h.1.1, h.1.2, h.2⟩
theorem inv_meth {m : Str} {o : E} {es : Es} (h : mE tb N sc (.meth m o es) p = true) : ∃ eo apos ps pos, p = .Call (.Attribute eo m apos) ps [] pos ∧ mE tb N sc o eo = true ∧ baseB eo = true ∧ mEs tb N sc es ps = true ∧ (apos.endLine == pos.line) = true ∧ ps.length < 20 := by
  cases p <;> try exact no h rfl
  rename_i fn args kw pos
  cases fn <;> try exact no h rfl
  rename_i eo m' apos
  cases kw with
  | cons _ _ => exact no h rfl
  | nil =>
    have h : (decide (m = m') && mE tb N sc o eo && baseB eo && mEs tb N sc es args && (apos.endLine == pos.line) && decide (args.length < 20)) = true := h
    simp only [Bool.and_eq_true, decide_eq_true_eq] at h
    obtain ⟨⟨⟨⟨⟨rfl, h1⟩, h2⟩, h3⟩, h4⟩, h5⟩ := h
    exact ⟨_, _, _, _, rfl, h1, h2, h3, h4, h5⟩
theorem inv_methT {m : Str} {o : E} {es : Es} (h : mT tb N sc (.meth m o es) p = true) : ∃ eo apos ps pos, p = .Call (.Attribute eo m apos) ps [] pos ∧ mE tb N sc o eo = true ∧ baseB eo = true ∧ mEs tb N sc es ps = true ∧ (apos.endLine == pos.line) = true ∧ ps.length < 20 := by
  cases p <;> try exact no h rfl
  rename_i fn args kw pos
  cases fn <;> try exact no h rfl
  rename_i eo m' apos
  cases kw with
  | cons _ _ => exact no h rfl
  | nil =>
    have h : (decide (m = m') && mE tb N sc o eo && baseB eo && mEs tb N sc es args && (apos.endLine == pos.line) && decide (args.length < 20)) = true := h
    simp only [Bool.and_eq_true, decide_eq_true_eq] at h
    obtain ⟨⟨⟨⟨⟨rfl, h1⟩, h2⟩, h3⟩, h4⟩, h5⟩ := h
    exact ⟨_, _, _, _, rfl, h1, h2, h3, h4, h5⟩
theorem inv_bm {m : Bm} {o : E} {es : Es} (h : mE tb N sc (.bm m o es) p = true) : ∃ eo apos ps pos, p = .Call (.Attribute eo (bmNm m) apos) ps [] pos ∧ mE tb N sc o eo = true ∧ baseB eo = true ∧ mEs tb N sc es ps = true ∧ (apos.endLine == pos.line) = true ∧ ps.length < 20 := by
  cases p <;> try exact no h rfl
  rename_i fn args kw pos
  cases fn <;> try exact no h rfl
  rename_i eo m' apos
  cases kw with
  | cons _ _ => exact no h rfl
  | nil =>
    have h : (decide (bmNm m = m') && mE tb N sc o eo && baseB eo && mEs tb N sc es args && (apos.endLine == pos.line) && decide (args.length < 20)) = true := h
    simp only [Bool.and_eq_true, decide_eq_true_eq] at h
    obtain ⟨⟨⟨⟨⟨h0, h1⟩, h2⟩, h3⟩, h4⟩, h5⟩ := h
    exact ⟨_, _, _, _, by rw [h0], h1, h2, h3, h4, h5⟩
theorem inv_fld {o : E} {f : Str} (h : mE tb N sc (.fld o f) p = true) : ∃ eo pos, p = .Attribute eo f pos ∧ mE tb N sc o eo = true ∧ baseB eo = true := by
  cases p <;> try exact no h rfl
  rename_i eo f' pos
  have h : (decide (f = f') && mE tb N sc o eo && baseB eo) = true := h
  simp only [Bool.and_eq_true, decide_eq_true_eq] at h
  obtain ⟨⟨rfl, h1⟩, h2⟩ := h
  exact ⟨_, _, rfl, h1, h2⟩
theorem inv_bi {b : Bi} {es : Es} (h : mE tb N sc (.bi b es) p = true) : ∃ (f : Value) (y : String) (px : Pos) (e : Expr) (ps : List Expr) (pos : Pos), b.fn = some (f, y) ∧ p = .Call (.Name (Str.ofString y) px) (e :: ps) [] pos ∧ bltB tb sc (Str.ofString y) = true ∧ mEs tb N sc es (e :: ps) = true := by
  cases p <;> try exact no h rfl
  rename_i fn args kw pos
  cases fn <;> try exact no h rfl
  rename_i x px
  cases args with
  | nil => exact no h rfl
  | cons e ps =>
    cases kw with
    | cons _ _ => exact no h rfl
    | nil =>
      have h : ((match (generalizing := false) b.fn with
        | some (_, y) => decide (x = Str.ofString y) && bltB tb sc x
        | none => false) && mEs tb N sc es (e :: ps)) = true := h
      rw [Bool.and_eq_true] at h
      obtain ⟨h1, h2⟩ := h
      split at h1
      · rename_i f y q
        simp only [Bool.and_eq_true, decide_eq_true_eq] at h1
        obtain ⟨rfl, h3⟩ := h1
        exact ⟨f, y, px, e, ps, pos, q, rfl, h3, h2⟩
      · cases h1
theorem inv_biT {b : Bi} {es : Es} (h : mT tb N sc (.bi b es) p = true) : ∃ (f : Value) (y : String) (px : Pos) (e : Expr) (ps : List Expr) (pos : Pos), b.fn = some (f, y) ∧ p = .Call (.Name (Str.ofString y) px) (e :: ps) [] pos ∧ bltB tb sc (Str.ofString y) = true ∧ mEs tb N sc es (e :: ps) = true := by
  cases p <;> try exact no h rfl
  rename_i fn args kw pos
  cases fn <;> try exact no h rfl
  rename_i x px
  cases args with
  | nil => exact no h rfl
  | cons e ps =>
    cases kw with
    | cons _ _ => exact no h rfl
    | nil =>
      have h : ((match (generalizing := false) b.fn with
        | some (_, y) => decide (x = Str.ofString y) && bltB tb sc x
        | none => false) && mEs tb N sc es (e :: ps)) = true := h
      rw [Bool.and_eq_true] at h
      obtain ⟨h1, h2⟩ := h
      split at h1
      · rename_i f y q
        simp only [Bool.and_eq_true, decide_eq_true_eq] at h1
        obtain ⟨rfl, h3⟩ := h1
        exact ⟨f, y, px, e, ps, pos, q, rfl, h3, h2⟩
      · cases h1
theorem inv_isi {a : E} {cs : List Ty} (h : mE tb N sc (.isi a cs) p = true) : ∃ px ea ec pos, p = .Call (.Name "isinstance" px) [ea, ec] [] pos ∧ bltB tb sc "isinstance" = true ∧ mE tb N sc a ea = true ∧ plainB ea = true ∧
    ((∃ es k q, ec = .Tuple es k q ∧ mTys tb sc cs es = true ∧ cs ≠ [] ∧ cs.length < 100) ∨ mTys tb sc cs [ec] = true ∨ mOwn tb sc cs ec = true) := by
  cases p <;> try exact no h rfl
  rename_i fn args kw pos
  cases fn <;> try exact no h rfl
  rename_i x px
  cases args with
  | nil => exact no h rfl
  | cons ea r =>
    cases r with
    | nil => exact no h rfl
    | cons ec r =>
      cases r with
      | cons _ _ => exact no h rfl
      | nil =>
        cases kw with
        | cons _ _ => exact no h rfl
        | nil =>
          have h : (decide (x = "isinstance") && bltB tb sc x && mE tb N sc a ea && plainB ea && (match (generalizing := false) ec with
            | .Tuple es _ _ => mTys tb sc cs es && !cs.isEmpty && decide (cs.length < 100)
            | ec => mTys tb sc cs [ec] || mOwn tb sc cs ec)) = true := h
          rw [Bool.and_eq_true] at h
          obtain ⟨h1, h2⟩ := h
          simp only [Bool.and_eq_true, decide_eq_true_eq] at h1
          obtain ⟨⟨⟨rfl, h3⟩, h4⟩, h5⟩ := h1
          refine ⟨px, ea, ec, pos, rfl, h3, h4, h5, ?_⟩
          split at h2
          · rename_i es k q
            simp only [Bool.and_eq_true, Bool.not_eq_true', List.isEmpty_eq_false_iff, decide_eq_true_eq] at h2
            exact .inl ⟨es, k, q, rfl, h2.1.1, h2.1.2, h2.2⟩
          · exact .inr (Bool.or_eq_true_iff.mp h2)
theorem inv_isiT {a : E} {cs : List Ty} (h : mT tb N sc (.isi a cs) p = true) : ∃ px ea ec pos, p = .Call (.Name "isinstance" px) [ea, ec] [] pos ∧ bltB tb sc "isinstance" = true ∧ mE tb N sc a ea = true ∧ plainB ea = true ∧
    ((∃ es k q, ec = .Tuple es k q ∧ mTys tb sc cs es = true ∧ cs ≠ [] ∧ cs.length < 100) ∨ mTys tb sc cs [ec] = true ∨ mOwn tb sc cs ec = true) := by
  cases p <;> try exact no h rfl
  rename_i fn args kw pos
  cases fn <;> try exact no h rfl
  rename_i x px
  cases args with
  | nil => exact no h rfl
  | cons ea r =>
    cases r with
    | nil => exact no h rfl
    | cons ec r =>
      cases r with
      | cons _ _ => exact no h rfl
      | nil =>
        cases kw with
        | cons _ _ => exact no h rfl
        | nil =>
          have h : (decide (x = "isinstance") && bltB tb sc x && mE tb N sc a ea && plainB ea && (match (generalizing := false) ec with
            | .Tuple es _ _ => mTys tb sc cs es && !cs.isEmpty && decide (cs.length < 100)
            | ec => mTys tb sc cs [ec] || mOwn tb sc cs ec)) = true := h
          rw [Bool.and_eq_true] at h
          obtain ⟨h1, h2⟩ := h
          simp only [Bool.and_eq_true, decide_eq_true_eq] at h1
          obtain ⟨⟨⟨rfl, h3⟩, h4⟩, h5⟩ := h1
          refine ⟨px, ea, ec, pos, rfl, h3, h4, h5, ?_⟩
          split at h2
          · rename_i es k q
            simp only [Bool.and_eq_true, Bool.not_eq_true', List.isEmpty_eq_false_iff, decide_eq_true_eq] at h2
            exact .inl ⟨es, k, q, rfl, h2.1.1, h2.1.2, h2.2⟩
          · exact .inr (Bool.or_eq_true_iff.mp h2)
theorem inv_comp {elt : E} {x : Bool} {tg : Tg} {it : It} {c : E} (h : mE tb N sc (.comp elt x tg it c) p = true) : ∃ ee etg ei ifs scope pos, p = .ListComp ee [⟨etg, ei, ifs, 0⟩] scope pos ∧ blkC N sc scope (tgOwn tg etg) = true ∧ (tgOwn tg etg).map (·.2) = tg.vars ∧ mTg N scope tg etg = true ∧
    mI tb N sc it ei etg = true ∧ ((ifs = [] ∧ c = .lit (.bl true)) ∨ ∃ q, ifs = [q] ∧ mT tb N (relB sc scope) c q = true) ∧ mE tb N (relB sc scope) elt ee = true := by
  cases p <;> try exact no h rfl
  rename_i ee gs scope pos
  cases gs with
  | nil => exact no h rfl
  | cons g r =>
    obtain ⟨etg, ei, ifs, ia⟩ := g
    cases r with
    | cons _ _ => exact no h (by cases ia with | ofNat k => cases k <;> rfl | negSucc k => rfl)
    | nil =>
      cases ia with
      | negSucc k => exact no h rfl
      | ofNat k =>
        cases k with
        | succ k => exact no h rfl
        | zero =>
          have h : (blkC N sc scope (tgOwn tg etg) && decide ((tgOwn tg etg).map (·.2) = tg.vars) && mTg N scope tg etg && mI tb N sc it ei etg && (match (generalizing := false) ifs with
            | [] => eqLit c.litT (.bl true)
            | [p] => mT tb N (relB sc scope) c p
            | _ => false) && mE tb N (relB sc scope) elt ee) = true := h
          simp only [Bool.and_eq_true, decide_eq_true_eq] at h
          obtain ⟨⟨⟨⟨⟨h1, h2⟩, h3⟩, h4⟩, h5⟩, h6⟩ := h
          refine ⟨ee, etg, ei, ifs, scope, pos, rfl, h1, h2, h3, h4, ?_, h6⟩
          split at h5
          · have e := eqLit_eq h5
            cases c <;> simp only [E.litT] at e <;> first | (subst e; exact .inl ⟨rfl, rfl⟩) | cases e
          · exact .inr ⟨_, rfl, h5⟩
          · cases h5
theorem inv_nop (h : mE tb N sc .nop p = true) : False := by cases p <;> exact no h rfl
theorem inv_dic {a b : Es} (h : mE tb N sc (.dic a b) p = true) : a = .nil ∧ b = .nil ∧ ∃ pos, p = .Dict [] [] pos := by
  cases p <;> try exact no h rfl
  rename_i ks vs pos
  cases ks with
  | cons _ _ => exact no h rfl
  | nil =>
    cases vs with
    | cons _ _ => exact no h rfl
    | nil =>
      have h : (esNil a && esNil b) = true := h
      cases a with
      | cons _ _ => cases h
      | nil =>
        cases b with
        | cons _ _ => cases h
        | nil => exact ⟨rfl, rfl, pos, rfl⟩
theorem inv_lrng {a : E} (h : mE tb N sc (.lrng a) p = true) : ∃ ea px py pos pos2, p = .Call (.Name "list" px) [.Call (.Name "range" py) [ea] [] pos2] [] pos ∧ bltB tb sc "list" = true ∧ bltB tb sc "range" = true ∧ mE tb N sc a ea = true ∧ plainB ea = true := by
  cases p <;> try exact no h rfl
  rename_i fn args kw pos
  cases fn <;> try exact no h rfl
  rename_i x px
  match args, kw, h with
  | [.Call (.Name y py) [ea] [] pos2], [], h =>
    have h : (decide (x = "list") && bltB tb sc x && decide (y = "range") && bltB tb sc y && mE tb N sc a ea && plainB ea) = true := h
    simp only [Bool.and_eq_true, decide_eq_true_eq] at h
    obtain ⟨⟨⟨⟨⟨rfl, h1⟩, rfl⟩, h2⟩, h3⟩, h4⟩ := h
    exact ⟨ea, px, py, pos, pos2, rfl, h1, h2, h3, h4⟩
theorem inv_dis {k v : E} (h : mE tb N sc (.dis k v) p = true) : ∃ pk pv pos, p = .Dict [some pk] [pv] pos ∧ mE tb N sc k pk = true ∧ mE tb N sc v pv = true := by
  cases p <;> try exact no h rfl
  rename_i ks vs pos
  match ks, vs, h with
  | [some pk], [pv], h =>
    have h : (mE tb N sc k pk && mE tb N sc v pv) = true := h
    rw [Bool.and_eq_true] at h
    exact ⟨pk, pv, pos, rfl, h.1, h.2⟩
theorem inv_minD {a : E} (h : mE tb N sc (.minD a) p = true) : ∃ ea px kk kp kq pos, p = .Call (.Name (Str.ofString "min") px) [ea] [⟨some (Str.ofString "default"), .Constant .none kk kp, kq⟩] pos ∧ bltB tb sc (Str.ofString "min") = true ∧ mE tb N sc a ea = true ∧ plainB ea = true := by
  cases p <;> try exact no h rfl
  rename_i fn args kw pos
  cases fn <;> try exact no h rfl
  rename_i x px
  match args, kw, h with
  | [ea], [⟨some k, .Constant .none kk kp, kq⟩], h =>
    have h : (decide (x = Str.ofString "min") && bltB tb sc x && decide (k = Str.ofString "default") && mE tb N sc a ea && plainB ea) = true := h
    simp only [Bool.and_eq_true, decide_eq_true_eq] at h
    obtain ⟨⟨⟨⟨rfl, h1⟩, rfl⟩, h2⟩, h3⟩ := h
    exact ⟨ea, px, kk, kp, kq, pos, rfl, h1, h2, h3⟩
theorem inv_back {a : E} (h : mE tb N sc (.back a) p = true) : ∃ ea k p1 p2 p3 pos, p = .Subscript ea (.Slice none none (some (.UnaryOp .USub (.Constant (.int 1) k p1) p2)) p3) pos ∧ mE tb N sc a ea = true := by
  cases p <;> try exact no h rfl
  rename_i ea eb pos
  cases eb <;> try exact no h rfl
  rename_i l u st p3
  cases l <;> try exact no h rfl
  cases u <;> try exact no h rfl
  cases st <;> try exact no h rfl
  rename_i q
  cases q <;> try exact no h rfl
  rename_i op q p2
  cases op <;> try exact no h rfl
  cases q <;> try exact no h rfl
  rename_i cst k p1
  cases cst <;> try exact no h rfl
  rename_i i
  by_cases hi : i = 1
  · subst hi
    exact ⟨_, _, _, _, _, _, rfl, h⟩
  · exfalso
    revert h
    unfold mE
    split <;> simp_all
end
end PC
namespace PC
open PySem PySem.Spec PyProof.Rows L2
section
variable (G : Glb) (P : Prog) (tb : Tab) (n : Nat)
def SE (e : E) : Prop := ∀ (X : Cx) (sc : Scope) (W : WX) (p : Expr), Ctx G P tb n X sc W → mE tb X.N sc e p = true → PE X p (tEv G W (evE P (callN P n) e))
def ST (e : E) : Prop := ∀ (X : Cx) (sc : Scope) (W : WX) (p : Expr), Ctx G P tb n X sc W → mT tb X.N sc e p = true → PT X p (tTv G W (evE P (callN P n) e))
def SEs (es : Es) : Prop := ∀ (X : Cx) (sc : Scope) (W : WX) (ps : List Expr), Ctx G P tb n X sc W → mEs tb X.N sc es ps = true → PA X ps (tLv G W (evEs P (callN P n) es)) ∧ ps.all plainB = true
end
variable {G : Glb} {P : Prog} {tb : Tab} {n : Nat}
section
variable {X : Cx} {sc : Scope} {W : WX}
theorem Ctx.pass (c : Ctx G P tb n X sc W) (σ : L2.St) : PassesAt (L2N.CX X.prog X.w) X σ (WE W σ) := L2N.passAt c.tk σ
theorem Ctx.blt (c : Ctx G P tb n X sc W) {x : Str} (h : bltB tb sc x = true) : Gl X x ∧ (x == ("__debug__" : Str)) = false ∧ x ≠ "__name__" ∧ X.mg x = none := by
  unfold bltB at h
  simp only [Bool.and_eq_true, List.any_eq_true, decide_eq_true_eq] at h
  obtain ⟨h1, y, h2, rfl⟩ := h
  obtain ⟨a, b, d⟩ := glB_ok h1 c.sc
  exact ⟨a, b, d, by rw [c.mg]; exact c.gl.blt _ h2⟩
theorem Ctx.hu (c : Ctx G P tb n X sc W) : X.A.units + 68 < cLine := by
  have := c.room.un
  omega
end
/-- the wish from a later world -/
theorem Post.from {W : WX} {w w1 : Wd} {σ : L2.St} {out : R T} {Q : VK} (e : Ev w w1) (h : Post G W w σ out Q) : Post G W w1 σ out Q := by
  cases out with
  | ok t st => exact fun v w' F a b c d o => h v w' F a (e.trans b) c d (o.back e)
  | exc c st => exact fun w' a b c => h w' a (e.trans b) c
  | bad => exact h
theorem e_lit {X : Cx} {W : WX} {t : T} {c : Const} {j : Nat} {pos : Pos} (h : litOf c = some t) : PE X (.Constant c j pos) (tEv G W fun _ st => .ok t st) := by
  cases c <;> simp only [litOf, Option.some.injEq, reduceCtorEq] at h <;> subst h
  · exact PE.imp pe_non fun σ H Q ⟨w, sl, e, ok, hs, h⟩ => by subst e; exact h.fin rfl Ev.refl ok (.cl .non)
  · exact PE.imp pe_bl fun σ H Q ⟨w, sl, e, ok, hs, h⟩ => by subst e; exact h.fin rfl Ev.refl ok (.cl (.bl _))
  · exact PE.imp pe_int fun σ H Q ⟨w, sl, e, ok, hs, h⟩ => by subst e; exact h.fin rfl Ev.refl ok (.cl (.int _))
  · exact PE.imp pe_str fun σ H Q ⟨w, sl, e, ok, hs, h⟩ => by subst e; exact h.fin rfl Ev.refl ok (.cl (.str _))
theorem c_lit {t : T} : SE G P tb n (.lit t) := by
  intro X sc W p c h
  obtain ⟨k, j, pos, rfl, e⟩ := inv_lit h
  exact e_lit e
theorem e_var {X : Cx} {W : WX} {i : Nat} {x : Str} {pos : Pos} {sc : Scope} (he : X.env.scope = sc) (h : nameB X.N sc i x = true) : PE X (.Name x pos) (tEv G W fun sl st => match sl[i]? with
    | some (some t) => .ok t st
    | _ => .bad) := by
  unfold nameB at h
  simp only [Bool.and_eq_true, decide_eq_true_eq, Bool.not_eq_true'] at h
  obtain ⟨⟨⟨h1, h2⟩, h3⟩, h4⟩ := h
  refine PE.imp (pe_var h1 (by rw [he]; exact visB_ok h2) h3 h4) fun σ H Q ⟨w, sl, e, ok, hs, h⟩ => ?_
  subst e
  dsimp only at h
  split at h
  · rename_i t q
    obtain ⟨v, q1, q2⟩ := hs.get i t q
    exact ⟨v, q1, h.fin rfl Ev.refl ok q2⟩
  · exact h.elim
theorem c_var {i : Nat} : SE G P tb n (.var i) := by
  intro X sc W p c h
  obtain ⟨x, pos, rfl, e⟩ := inv_var h
  exact e_var c.sc e
theorem c_glb {x : Str} {t : T} : SE G P tb n (.glb x t) := by
  intro X sc W p c h
  obtain ⟨pos, rfl, hg, q, hq, e1, e2⟩ := inv_glb h
  obtain ⟨a, b, _⟩ := glB_ok hg c.sc
  obtain ⟨v, u, m, r, rc⟩ := c.gl.cst q hq
  rw [e1] at m
  rw [e2] at rc
  refine PE.imp (pe_glob a (by rw [c.mg]; exact m) r b) fun σ H Q ⟨w, sl, e, ok, hs, h⟩ => ?_
  subst e
  exact Post.fin (t := t) h rfl Ev.refl ok (.cl (rc _ _))
theorem c_bin {op : Operator} {a b : E} (ia : SE G P tb n a) (ib : SE G P tb n b) : SE G P tb n (.bin op a b) := by
  intro X sc W p c h
  obtain ⟨ea, eb, pos, rfl, h1, h2⟩ := inv_bin h
  obtain ⟨r, hr, hok⟩ := binop_ok (G := G) (W := W) c.K op
  refine PE.imp (pe_op hr (ia X sc W ea c h1) (ib X sc W eb c h2)) fun σ H Q ⟨w, sl, e, ok, hs, h⟩ => ?_
  subst e
  refine Post.bind Ev.refl h ok hs fun x st1 v w1 F1 h e1 ev1 ok1 r1 o1 => ?_
  subst e1
  refine Post.bind ev1 h ok1 (hs.mono ev1 ok) fun y st2 u w2 F2 h e2 ev2 ok2 r2 o2 => ?_
  subst e2
  exact hok w w2 σ x y v u F1 F2 Q h (ev1.trans ev2) ok2 (ev2.ro ok1 o1 r1) r2 ((o1.mono ev2 (RepO.trk r1)).both o2 ev1 (RepO.trk r1))
theorem c_neg {a : E} (ia : SE G P tb n a) : SE G P tb n (.neg a) := by
  intro X sc W p c h
  obtain ⟨ea, pos, rfl, h1⟩ := inv_neg h
  refine PE.imp (pe_un un_neg (ia X sc W ea c h1)) fun σ H Q ⟨w, sl, e, ok, hs, h⟩ => ?_
  subst e
  refine Post.bind Ev.refl h ok hs fun x st1 v w1 F1 h e1 ev1 ok1 r1 o1 => ?_
  subst e1
  split at h
  · obtain ⟨rfl, rfl⟩ := RO_int r1
    exact ⟨_, rfl, h.fin rfl ev1 ok1 (.cl (.int _))⟩
  · exact h.elim
theorem c_not {a : E} (ia : SE G P tb n a) : SE G P tb n (.not a) := by
  intro X sc W p c h
  obtain ⟨ea, pos, rfl, h1⟩ := inv_not h
  refine PE.imp (pe_not (ia X sc W ea c h1)) fun σ H Q ⟨w, sl, e, ok, hs, h⟩ => ?_
  subst e
  refine Post.bind Ev.refl h ok hs fun x st1 v w1 F1 h e1 ev1 ok1 r1 o1 => ?_
  subst e1
  split at h
  · obtain ⟨rfl, rfl⟩ := RO_bl r1
    exact ⟨_, rfl, h.fin rfl ev1 ok1 (.cl (.bl _))⟩
  · exact h.elim
theorem t_not {a : E} (ia : ST G P tb n a) : ST G P tb n (.not a) := by
  intro X sc W p c h
  obtain ⟨ea, pos, rfl, h1⟩ := inv_notT h
  refine PT.imp (pt_not (ia X sc W ea c h1)) fun σ H Q ⟨w, sl, e, ok, hs, h⟩ => ?_
  subst e
  refine Post.bindT Ev.refl h ok hs fun x st1 v w1 F1 h e1 ev1 ok1 r1 o1 => ?_
  subst e1
  split at h
  · obtain ⟨rfl, rfl⟩ := RO_bl r1
    obtain ⟨b, e, q⟩ := h.fin rfl ev1 ok1 (.cl (.bl _))
    cases e
    exact ⟨_, rfl, q⟩
  · exact h.elim
theorem cmp_core {X : Cx} {sc : Scope} {W : WX} {op : CmpOp} {a b : E} (c : Ctx G P tb n X sc W) {r : R2} (hok : OpOk G W r (cmpop op)) {w : Wd} {σ : L2.St} {sl : Slots} {Q : VK} (ok : w.Ok G) (hs : SlotR G w σ sl)
    (h : Post G W w σ (evE P (callN P n) (.cmp op a b) sl w.st) Q) : tOp r (tEv G W (evE P (callN P n) a)) (tEv G W (evE P (callN P n) b)) σ w.H Q := by
  refine Post.bind Ev.refl h ok hs fun x st1 v w1 F1 h e1 ev1 ok1 r1 o1 => ?_
  subst e1
  refine Post.bind ev1 h ok1 (hs.mono ev1 ok) fun y st2 u w2 F2 h e2 ev2 ok2 r2 o2 => ?_
  subst e2
  exact hok w w2 σ x y v u F1 F2 Q h (ev1.trans ev2) ok2 (ev2.ro ok1 o1 r1) r2 ((o1.mono ev2 (RepO.trk r1)).both o2 ev1 (RepO.trk r1))
theorem c_cmp {op : CmpOp} {a b : E} (ia : SE G P tb n a) (ib : SE G P tb n b) : SE G P tb n (.cmp op a b) := by
  intro X sc W p c h
  obtain ⟨ea, eb, pos, rfl, h1, h2, h3⟩ := inv_cmp h
  obtain ⟨r, hr, hok⟩ := cmpop_ok (G := G) (W := W) c.K c.wd c.hu op
  exact PE.imp (pe_cmpR hr (ia X sc W ea c h1) (ib X sc W eb c h2) h3) fun σ H Q ⟨w, sl, e, ok, hs, h⟩ => by subst e; exact cmp_core c hok ok hs h
theorem t_cmp {op : CmpOp} {a b : E} (ia : SE G P tb n a) (ib : SE G P tb n b) : ST G P tb n (.cmp op a b) := by
  intro X sc W p c h
  obtain ⟨ea, eb, pos, rfl, h1, h2, h3⟩ := inv_cmpT h
  obtain ⟨r, hr, hok⟩ := cmpop_ok (G := G) (W := W) c.K c.wd c.hu op
  exact PT.imp (pt_cmpR hr (ia X sc W ea c h1) (ib X sc W eb c h2) h3) fun σ H Q ⟨w, sl, e, ok, hs, h⟩ => by subst e; exact cmp_core c hok ok hs h
def icmpP : CmpOp → Int → Int → Bool
  | .Lt => fun i j => decide (i < j)
  | .LtE => fun i j => decide (i ≤ j)
  | .Gt => fun i j => decide (j < i)
  | _ => fun i j => decide (j ≤ i)
theorem icmp_inv {op : CmpOp} {x y : T} {b : Bool} (h : icmp op x y = some b) : ∃ i j, x = .int i ∧ y = .int j ∧ b = icmpP op i j := by
  cases op <;> cases x <;> cases y <;> first | (simp only [icmp, Option.some.injEq] at h; exact ⟨_, _, rfl, rfl, h.symm⟩) | (simp only [icmp, reduceCtorEq] at h; done)
theorem icmp_op {X : Cx} (op : CmpOp) : OpR X (compareOp op) (rI (fun i j => icmp op (.int i) (.int j) = some (icmpP op i j)) fun i j => .bl (icmpP op i j)) := by
  intro pins s σ H x y v u Q I rx ry h
  obtain ⟨i, j, rfl, rfl, c, q⟩ := h
  cases op <;> first
    | exact op_lt pins s σ H _ _ v u Q I rx ry ⟨i, j, rfl, rfl, q⟩
    | exact op_le pins s σ H _ _ v u Q I rx ry ⟨i, j, rfl, rfl, q⟩
    | exact op_gt pins s σ H _ _ v u Q I rx ry ⟨i, j, rfl, rfl, q⟩
    | exact op_ge pins s σ H _ _ v u Q I rx ry ⟨i, j, rfl, rfl, q⟩
    | cases c
theorem chain_core {X : Cx} {sc : Scope} {W : WX} {op op' : CmpOp} {a b d : E} (c : Ctx G P tb n X sc W) {w : Wd} {σ : L2.St} {sl : Slots} {Q : VK} (ok : w.Ok G) (hs : SlotR G w σ sl)
    (h : Post G W w σ (evE P (callN P n) (.chain op op' a b d) sl w.st) Q) :
    tChain (rI (fun i j => icmp op (.int i) (.int j) = some (icmpP op i j)) fun i j => .bl (icmpP op i j)) (rI (fun i j => icmp op' (.int i) (.int j) = some (icmpP op' i j)) fun i j => .bl (icmpP op' i j))
      (tEv G W (evE P (callN P n) a)) (tEv G W (evE P (callN P n) b)) (tEv G W (evE P (callN P n) d)) σ w.H Q := by
  refine Post.bind Ev.refl h ok hs fun x st1 v w1 F1 h e1 ev1 ok1 r1 o1 => ?_
  subst e1
  refine Post.bind ev1 h ok1 (hs.mono ev1 ok) fun y st2 u w2 F2 h e2 ev2 ok2 r2 o2 => ?_
  subst e2
  have ev12 := ev1.trans ev2
  cases q : icmp op x y with
  | none =>
    simp only [q] at h
    exact h.elim
  | some b0 =>
    obtain ⟨i, j, rfl, rfl, e⟩ := icmp_inv q
    obtain ⟨rfl, rfl⟩ := RO_int r1
    obtain ⟨rfl, rfl⟩ := RO_int r2
    simp only [q] at h
    cases b0 with
    | true =>
      refine ⟨i, j, rfl, rfl, q.trans (congrArg some e), true, congrArg V.bl e.symm, ?_⟩
      rw [if_pos rfl]
      refine Post.bind ev12 h ok2 (hs.mono ev12 ok) fun z st3 v3 w3 F3 h e3 ev3 ok3 r3 o3 => ?_
      subst e3
      cases q3 : icmp op' (.int j) z with
      | none =>
        rw [q3] at h
        exact h.elim
      | some b3 =>
        rw [q3] at h
        obtain ⟨j', k, e4, rfl, e5⟩ := icmp_inv q3
        cases e4
        obtain ⟨rfl, rfl⟩ := RO_int r3
        exact ⟨j, k, rfl, rfl, q3.trans (congrArg some e5), by show Q (.bl (icmpP op' j k)) w3.H; rw [← e5]; exact Post.fin (t := .bl b3) h rfl (ev12.trans ev3) ok3 (.cl (.bl _))⟩
    | false =>
      refine ⟨i, j, rfl, rfl, q.trans (congrArg some e), false, congrArg V.bl e.symm, ?_⟩
      rw [if_neg (by decide)]
      exact h.fin rfl ev12 ok2 (.cl (.bl _))
theorem c_chain {op op' : CmpOp} {a b d : E} (ia : SE G P tb n a) (ib : SE G P tb n b) (id : SE G P tb n d) : SE G P tb n (.chain op op' a b d) := by
  intro X sc W p c h
  obtain ⟨ea, eb, ec, pos, rfl, h1, h2, h3, h4⟩ := inv_chain h
  exact PE.imp (pe_chain (icmp_op op) (icmp_op op') (ia X sc W ea c h1) (ib X sc W eb c h2) (id X sc W ec c h3) h4) fun σ H Q ⟨w, sl, e, ok, hs, h⟩ => by subst e; exact chain_core c ok hs h
theorem t_chain {op op' : CmpOp} {a b d : E} (ia : SE G P tb n a) (ib : SE G P tb n b) (id : SE G P tb n d) : ST G P tb n (.chain op op' a b d) := by
  intro X sc W p c h
  obtain ⟨ea, eb, ec, pos, rfl, h1, h2, h3, h4⟩ := inv_chainT h
  exact PT.imp (pt_chain (icmp_op op) (icmp_op op') (ia X sc W ea c h1) (ib X sc W eb c h2) (id X sc W ec c h3) h4) fun σ H Q ⟨w, sl, e, ok, hs, h⟩ => by subst e; exact chain_core c ok hs h
theorem c_and {a b : E} (ia : SE G P tb n a) (ib : SE G P tb n b) : SE G P tb n (.and a b) := by
  intro X sc W p c h
  obtain ⟨ea, eb, es, pos, rfl, h1, h2⟩ := inv_and h
  have hb : PE X (.BoolOp .And (eb :: es) pos) (tEv G W (evE P (callN P n) b)) := by
    rcases h2 with ⟨rfl, h2⟩ | ⟨_, h2⟩
    · exact pe_one (ib X sc W eb c h2)
    · exact ib X sc W _ c h2
  refine PE.imp (pe_and (ia X sc W ea c h1) hb) fun σ H Q ⟨w, sl, e, ok, hs, h⟩ => ?_
  subst e
  refine Post.bind Ev.refl h ok hs fun x st1 v w1 F1 h e1 ev1 ok1 r1 o1 => ?_
  subst e1
  split at h
  · obtain ⟨rfl, rfl⟩ := RO_bl r1
    refine ⟨true, rfl, ?_⟩
    rw [if_pos rfl]
    exact ⟨w1, sl, rfl, ok1, hs.mono ev1 ok, Post.from ev1 h⟩
  · obtain ⟨rfl, rfl⟩ := RO_bl r1
    refine ⟨false, rfl, ?_⟩
    rw [if_neg (by decide)]
    exact h.fin rfl ev1 ok1 (.cl (.bl _))
  · exact h.elim
theorem c_or {a b : E} (ia : SE G P tb n a) (ib : SE G P tb n b) : SE G P tb n (.or a b) := by
  intro X sc W p c h
  obtain ⟨ea, eb, es, pos, rfl, h1, h2⟩ := inv_or h
  have hb : PE X (.BoolOp .Or (eb :: es) pos) (tEv G W (evE P (callN P n) b)) := by
    rcases h2 with ⟨rfl, h2⟩ | ⟨_, h2⟩
    · exact pe_one (ib X sc W eb c h2)
    · exact ib X sc W _ c h2
  refine PE.imp (pe_or (ia X sc W ea c h1) hb) fun σ H Q ⟨w, sl, e, ok, hs, h⟩ => ?_
  subst e
  refine Post.bind Ev.refl h ok hs fun x st1 v w1 F1 h e1 ev1 ok1 r1 o1 => ?_
  subst e1
  split at h
  · obtain ⟨rfl, rfl⟩ := RO_bl r1
    refine ⟨true, rfl, ?_⟩
    rw [if_pos rfl]
    exact h.fin rfl ev1 ok1 (.cl (.bl _))
  · obtain ⟨rfl, rfl⟩ := RO_bl r1
    refine ⟨false, rfl, ?_⟩
    rw [if_neg (by decide)]
    exact ⟨w1, sl, rfl, ok1, hs.mono ev1 ok, Post.from ev1 h⟩
  · exact h.elim
theorem pw_of {X : Cx} {op : BoolOp} {es : List Expr} {pos : Pos} {t : TT} (h : PT X (.BoolOp op es pos) t) : PW X (.BoolOp op es pos) t := ⟨fun wh pins s σ H Q I q => h.run pins s σ H Q I q⟩
theorem t_and {a b : E} (ia : ST G P tb n a) (ib : ST G P tb n b) : ST G P tb n (.and a b) := by
  intro X sc W p c h
  obtain ⟨ea, eb, es, pos, rfl, h1, h2⟩ := inv_andT h
  have hb : PW X (.BoolOp .And (eb :: es) pos) (tTv G W (evE P (callN P n) b)) := by
    rcases h2 with ⟨rfl, h2⟩ | ⟨_, h2⟩
    · exact pw_and1 (ib X sc W eb c h2)
    · exact pw_of (ib X sc W _ c h2)
  refine PT.imp (pw_and (ia X sc W ea c h1) hb).pt fun σ H Q ⟨w, sl, e, ok, hs, h⟩ => ?_
  subst e
  refine Post.bindT Ev.refl h ok hs fun x st1 v w1 F1 h e1 ev1 ok1 r1 o1 => ?_
  subst e1
  split at h
  · obtain ⟨rfl, rfl⟩ := RO_bl r1
    refine ⟨true, rfl, ?_⟩
    rw [if_pos rfl]
    exact ⟨w1, sl, rfl, ok1, hs.mono ev1 ok, Post.from ev1 h⟩
  · obtain ⟨rfl, rfl⟩ := RO_bl r1
    refine ⟨false, rfl, ?_⟩
    rw [if_neg (by decide)]
    obtain ⟨b, e, q⟩ := h.fin rfl ev1 ok1 (.cl (.bl _))
    cases e
    exact q
  · exact h.elim
theorem t_or {a b : E} (ia : ST G P tb n a) (ib : ST G P tb n b) : ST G P tb n (.or a b) := by
  intro X sc W p c h
  obtain ⟨ea, eb, es, pos, rfl, h1, h2⟩ := inv_orT h
  have hb : PW X (.BoolOp .Or (eb :: es) pos) (tTv G W (evE P (callN P n) b)) := by
    rcases h2 with ⟨rfl, h2⟩ | ⟨_, h2⟩
    · exact pw_or1 (ib X sc W eb c h2)
    · exact pw_of (ib X sc W _ c h2)
  refine PT.imp (pw_or (ia X sc W ea c h1) hb).pt fun σ H Q ⟨w, sl, e, ok, hs, h⟩ => ?_
  subst e
  refine Post.bindT Ev.refl h ok hs fun x st1 v w1 F1 h e1 ev1 ok1 r1 o1 => ?_
  subst e1
  split at h
  · obtain ⟨rfl, rfl⟩ := RO_bl r1
    refine ⟨true, rfl, ?_⟩
    rw [if_pos rfl]
    obtain ⟨b, e, q⟩ := h.fin rfl ev1 ok1 (.cl (.bl _))
    cases e
    exact q
  · obtain ⟨rfl, rfl⟩ := RO_bl r1
    refine ⟨false, rfl, ?_⟩
    rw [if_neg (by decide)]
    exact ⟨w1, sl, rfl, ok1, hs.mono ev1 ok, Post.from ev1 h⟩
  · exact h.elim
theorem c_ife {d a b : E} (id : ST G P tb n d) (ia : SE G P tb n a) (ib : SE G P tb n b) : SE G P tb n (.ife d a b) := by
  intro X sc W p c h
  obtain ⟨ec, ea, eb, pos, rfl, h1, h2, h3⟩ := inv_ife h
  refine PE.imp (pe_ifExp (id X sc W ec c h1) (ia X sc W ea c h2) (ib X sc W eb c h3)) fun σ H Q ⟨w, sl, e, ok, hs, h⟩ => ?_
  subst e
  refine Post.bindT Ev.refl h ok hs fun x st1 v w1 F1 h e1 ev1 ok1 r1 o1 => ?_
  subst e1
  split at h
  · obtain ⟨rfl, rfl⟩ := RO_bl r1
    refine ⟨true, rfl, ?_⟩
    rw [if_pos rfl]
    exact ⟨w1, sl, rfl, ok1, hs.mono ev1 ok, Post.from ev1 h⟩
  · obtain ⟨rfl, rfl⟩ := RO_bl r1
    refine ⟨false, rfl, ?_⟩
    rw [if_neg (by decide)]
    exact ⟨w1, sl, rfl, ok1, hs.mono ev1 ok, Post.from ev1 h⟩
  · exact h.elim
/-! ### displays, subscripts -/
theorem fzsR_ok {w0 w : Wd} {ts : List T} {vs : List V} {F : List Addr} {ts' : List T} {st' : Store} (ok : w.Ok G) (h : w.ROs G vs ts F) (ow : Own w0 w F) (e : fzsR ts w.st = .ok ts' st') :
    ∃ w', w'.st = st' ∧ Mv G w w' F ∧ w'.RCs G vs ts' := by
  unfold fzsR at e
  split at e
  · cases e
    exact fzs_ok ts ok h ow (by assumption)
  · cases e
theorem fzsR_or (ts : List T) (st : Store) : (∃ ts' st', fzsR ts st = .ok ts' st') ∨ fzsR ts st = .bad := by
  unfold fzsR
  split
  · exact .inl ⟨_, _, rfl⟩
  · exact .inr rfl
theorem disp_core {X : Cx} {sc : Scope} {W : WX} {es : Es} (g : Tag) (o : Ow) (mk : List V → HO) (hg : (g = .tup ∧ o = .fz ∧ mk = HO.tup) ∨ (g = .lst ∧ o = .own ∧ mk = HO.lst)) {w : Wd} {σ : L2.St} {sl : Slots} {Q : VK} (ok : w.Ok G) (hs : SlotR G w σ sl)
    (h : Post G W w σ ((evEs P (callN P n) es sl w.st).bind fun xs st => (fzsR xs st).bind fun xs st => if lenOk xs.length then .ok (.nd g o xs) st else .bad) Q) :
    tLv G W (evEs P (callN P n) es) σ w.H fun xs H1 => xs.length ≤ sizeLine ∧ ∀ p, H1 p = none → Q (.ref p) (upd H1 p (mk xs)) := by
  refine Post.bindL Ev.refl h ok hs fun xs st1 vs w1 F1 h e1 ev1 ok1 r1 o1 => ?_
  subst e1
  rcases fzsR_or xs w1.st with ⟨ys, st2, q⟩ | q
  · rw [q] at h
    obtain ⟨w2, e2, m2, c2⟩ := fzsR_ok ok1 r1 o1 q
    simp only [R.bind] at h
    split at h
    · rename_i hl
      refine ⟨by rw [c2.length]; exact lenOk_le hl, fun p hp => ?_⟩
      have hp2 : w2.H p = none := by rw [m2.H]; exact hp
      have ev2 := m2.ev ev1 o1.new
      rw [← m2.H]
      rcases hg with ⟨rfl, rfl, rfl⟩ | ⟨rfl, rfl, rfl⟩
      · exact h.newFz e2 ev2 m2.ok hp2 (g := .tup) upd_same c2
      · exact h.newOwn e2 ev2 m2.ok hp2 (g := .lst) upd_same c2
    · exact h.elim
  · rw [q] at h
    exact h.elim
theorem c_tup {es : Es} (ie : SEs G P tb n es) : SE G P tb n (.tup es) := by
  intro X sc W p c h
  obtain ⟨ps, k, pos, rfl, h1⟩ := inv_tup h
  exact PE.imp (pe_tup (ie X sc W ps c h1).1) fun σ H Q ⟨w, sl, e, ok, hs, h⟩ => by subst e; exact disp_core (X := X) (sc := sc) .tup .fz HO.tup (.inl ⟨rfl, rfl, rfl⟩) ok hs h
theorem c_lst {es : Es} (ie : SEs G P tb n es) : SE G P tb n (.lst es) := by
  intro X sc W p c h
  obtain ⟨ps, pos, rfl, h1⟩ := inv_lst h
  exact PE.imp (pe_lst (ie X sc W ps c h1).1) fun σ H Q ⟨w, sl, e, ok, hs, h⟩ => by subst e; exact disp_core (X := X) (sc := sc) .lst .own HO.lst (.inr ⟨rfl, rfl, rfl⟩) ok hs h
theorem dispX_core {W : WX} {es : Es} (g : Tag) (mk : List V → HO) (hg : (g = .tup ∧ mk = HO.tup) ∨ (g = .lst ∧ mk = HO.lst)) {w : Wd} {σ : L2.St} {sl : Slots} {Q : VK} (ok : w.Ok G) (hs : SlotR G w σ sl)
    (h : Post G W w σ ((evEs P (callN P n) es sl w.st).bind fun xs st => if lenOk xs.length then .ok (.nd g .opn xs) st else .bad) Q) :
    tLv G W (evEs P (callN P n) es) σ w.H fun xs H1 => xs.length ≤ sizeLine ∧ ∀ p, H1 p = none → Q (.ref p) (upd H1 p (mk xs)) := by
  refine Post.bindL Ev.refl h ok hs fun xs st1 vs w1 F1 h e1 ev1 ok1 r1 o1 => ?_
  subst e1
  split at h
  · rename_i hl
    refine ⟨by rw [r1.length]; exact lenOk_le hl, fun p hp => ?_⟩
    rcases hg with ⟨rfl, rfl⟩ | ⟨rfl, rfl⟩
    · exact h.newOpn rfl ev1 ok1 hp (g := .tup) upd_same r1 o1
    · exact h.newOpn rfl ev1 ok1 hp (g := .lst) upd_same r1 o1
  · exact h.elim
theorem c_tupX {es : Es} (ie : SEs G P tb n es) : SE G P tb n (.tupX es) := by
  intro X sc W p c h
  obtain ⟨ps, k, pos, rfl, h1⟩ := inv_tupX h
  exact PE.imp (pe_tup (ie X sc W ps c h1).1) fun σ H Q ⟨w, sl, e, ok, hs, h⟩ => by subst e; exact dispX_core .tup HO.tup (.inl ⟨rfl, rfl⟩) ok hs h
theorem c_lstX {es : Es} (ie : SEs G P tb n es) : SE G P tb n (.lstX es) := by
  intro X sc W p c h
  obtain ⟨ps, pos, rfl, h1⟩ := inv_lstX h
  exact PE.imp (pe_lst (ie X sc W ps c h1).1) fun σ H Q ⟨w, sl, e, ok, hs, h⟩ => by subst e; exact dispX_core .lst HO.lst (.inr ⟨rfl, rfl⟩) ok hs h
theorem plainIx {e : Expr} (h : plainB e = true) : PlainIx e := by
  intro o i
  cases e <;> first | rfl | cases h
theorem c_idx {a b : E} (ia : SE G P tb n a) (ib : SE G P tb n b) : SE G P tb n (.idx a b) := by
  intro X sc W p c h
  obtain ⟨ea, eb, pos, rfl, h1, h2, h3⟩ := inv_idx h
  refine PE.imp (pe_ix (IxR.or ix_seq (ix_dct (by have := c.room.un; omega))) (ia X sc W ea c h1) (ib X sc W eb c h2) (plainIx h3)) fun σ H Q ⟨w, sl, e, ok, hs, h⟩ => ?_
  subst e
  refine Post.bind Ev.refl h ok hs fun x st1 v w1 F1 h e1 ev1 ok1 r1 o1 => ?_
  subst e1
  refine Post.bind ev1 h ok1 (hs.mono ev1 ok) fun y st2 u w2 F2 h e2 ev2 ok2 r2 o2 => ?_
  subst e2
  exact idxT_ok c.K c.wd w w2 σ x y v u F1 F2 Q h (ev1.trans ev2) ok2 (ev2.ro ok1 o1 r1) r2 ((o1.mono ev2 (RepO.trk r1)).both o2 ev1 (RepO.trk r1))
/-- a slice's part -/
def tPartE (G : Glb) (W : WX) (b : Bool) (ev : Slots → Store → R T) : TO := fun σ H Q => tEv G W ev σ H fun v H1 => (b = true ∧ Q none H1) ∨ (b = false ∧ ∃ i, v = .int i ∧ Q (some i) H1)
theorem c_part {X : Cx} {sc : Scope} {W : WX} {e : E} {l : Option Expr} (ie : SE G P tb n e) (c : Ctx G P tb n X sc W) (h : (match l with
    | none => isNop e
    | some p => mE tb X.N sc e p && !(isNop e)) = true) : PO X l (tPartE G W (isNop e) (evE P (callN P n) e)) := by
  cases l with
  | none =>
    have h : isNop e = true := h
    refine ⟨fun pins s σ H Q I q => po_none.run pins s σ H Q I ?_⟩
    cases e <;> first | cases h | skip
    obtain ⟨w, sl, e, ok, hs, h⟩ := q
    subst e
    rcases Post.fin (t := .non) (v := .non) h rfl Ev.refl ok (.cl .non) with ⟨_, q⟩ | ⟨q, _⟩
    · exact q
    · cases q
  | some p =>
    simp only [Bool.and_eq_true, Bool.not_eq_true'] at h
    refine ⟨fun pins s σ H Q I q => (po_some (ie X sc W p c h.1)).run pins s σ H Q I ?_⟩
    obtain ⟨w, sl, e1, ok, hs, q⟩ := q
    refine ⟨w, sl, e1, ok, hs, ?_⟩
    cases q2 : evE P (callN P n) e sl w.st with
    | ok t st =>
      rw [q2] at q
      intro v w' F a b d e f
      rcases q v w' F a b d e f with ⟨z, _⟩ | ⟨_, i, z, r⟩
      · rw [h.2] at z
        cases z
      · exact ⟨i, z, r⟩
    | exc k st =>
      rw [q2] at q
      exact q
    | bad =>
      rw [q2] at q
      exact q
theorem rng_c {w : Wd} : ∀ (n : Nat) (lo : Int), w.RCs G ((List.range n).map fun i : Nat => V.int (lo + (i : Nat))) (rngT lo n)
  | 0, _ => .nil
  | n + 1, lo => by
    rw [List.range_succ_eq_map, List.map_cons, List.map_map]
    simp only [rngT]
    have e : ((fun i : Nat => V.int (lo + (i : Nat))) ∘ Nat.succ) = fun i : Nat => V.int ((lo + 1) + (i : Nat)) := by
      funext i
      show V.int (lo + ((i + 1 : Nat) : Int)) = _
      congr 1
      omega
    rw [e]
    exact .cons (by simpa using RepC.int lo) (rng_c n (lo + 1))
theorem c_lrng {a : E} (ia : SE G P tb n a) : SE G P tb n (.lrng a) := by
  intro X sc W p c h
  obtain ⟨ea, px, py, pos, pos2, rfl, h1, h2, h3, h4⟩ := inv_lrng h
  obtain ⟨ga, gb, gc, gd⟩ := c.blt h1
  obtain ⟨ra, rb, rc, rd⟩ := c.blt h2
  refine PE.imp (pe_listRg c.calm ga gd (prg_1 ra rd (ia X sc W ea c h3) (star_plain h4 _ _)) (star_plain rfl _ _)) fun σ H Q ⟨w, sl, e, ok, hs, h⟩ => ?_
  subst e
  refine Post.bind Ev.refl h ok hs fun x st1 v w1 F1 h e1 ev1 ok1 r1 o1 => ?_
  subst e1
  split at h
  · rename_i j
    split at h
    · rename_i hj
      obtain ⟨rfl, _⟩ := RO_int r1
      unfold rngW at hj
      simp only [Bool.and_eq_true, decide_eq_true_eq] at hj
      have hl := lenOk_le hj.2
      rw [sizeLine_eq] at hl
      refine ⟨j, rfl, ⟨by omega, by omega, hj.1.1.2, hj.1.2, by omega⟩, fun q hq => ?_⟩
      refine h.newOwn rfl ev1 ok1 hq (g := .lst) upd_same ?_
      unfold rgV
      rw [Int.sub_zero]
      exact rng_c j.toNat 0
    · exact h.elim
  · exact h.elim
/-- an own thing's object is another one -/
theorem own_upd {w : Wd} (ok : w.Ok G) {p : Addr} {o : HO} (ns : ¬ w.S p) (nr : p ∉ w.r) : Wd.Ok G ⟨upd w.H p o, w.r, w.st, w.S⟩ := by
  refine ⟨ok.len, ok.nd, fun k b t h1 h2 => ?_, fun b s => ?_⟩
  · have hb : b ≠ p := fun e => nr (e ▸ List.mem_of_getElem? h1)
    exact CellOk.mono (w := w) (w' := ⟨upd w.H p o, w.r, w.st, w.S⟩) (fun _ s => s) (fun n => n) (fun c u s q => by show upd w.H p o c = _; rw [upd_ne (show c ≠ p from fun e => ns (e ▸ s))]; exact q) (fun u q => by show upd w.H p o b = _; rw [upd_ne hb]; exact q) (fun _ _ q => q) (ok.cells k b t h1 h2)
  · obtain ⟨u, q⟩ := ok.trk b s
    exact ⟨u, by show upd w.H p o b = _; rw [upd_ne (show b ≠ p from fun e => ns (e ▸ s))]; exact q⟩
theorem own_ev {w0 w : Wd} (e : Ev w0 w) {p : Addr} {o : HO} (n0 : w0.H p = none) : Ev w0 ⟨upd w.H p o, w.r, w.st, w.S⟩ := by
  refine ⟨e.rho, e.s1, e.s2, fun b u h nl => ?_, fun b u h => ?_, fun b l => e.live b l⟩
  · show upd w.H p o b = _
    rw [upd_ne (show b ≠ p from fun z => by rw [z, n0] at h; cases h)]
    exact e.keep b u h nl
  · obtain ⟨u', q⟩ := e.there b u h
    exact ⟨u', by show upd w.H p o b = _; rw [upd_ne (show b ≠ p from fun z => by rw [z, n0] at h; cases h)]; exact q⟩
theorem c_dis {k v : E} (ik : SE G P tb n k) (iv : SE G P tb n v) : SE G P tb n (.dis k v) := by
  intro X sc W p c h
  obtain ⟨pk, pv, pos, rfl, h1, h2⟩ := inv_dis h
  have go : ∀ (bb : Bool) {w : Wd} {sl : Slots} {σ : L2.St} {Q : VK}, w.Ok G → SlotR G w σ sl → Post G W w σ (evE P (callN P n) (.dis k v) sl w.st) Q →
      (∀ x st1 y st2 y' st3 cb j, evE P (callN P n) k sl w.st = .ok x st1 → evE P (callN P n) v sl st1 = .ok y st2 → fzR y st2 = .ok y' st3 → keyT x = some (cb, j) → cb = bb) → tDisp1 X.w bb (tEv G W (evE P (callN P n) k)) (tEv G W (evE P (callN P n) v)) σ w.H Q := fun bb {w sl σ Q} ok hs h hb p o hp hsys dO => by
    have okp : (w.addO p (objO p o)).Ok G := ok.addO hp
    have evp : Ev w (w.addO p (objO p o)) := Ev.addO hp
    have nsp : ¬ (w.addO p (objO p o)).S p := ok.noS hp
    have nrp : p ∉ (w.addO p (objO p o)).r := ok.noR hp
    have trp : (w.addO p (objO p o)).H p = some (objO p o) := upd_same
    have h : Post G W w σ ((evE P (callN P n) k sl (w.addO p (objO p o)).st).bind fun x st => (evE P (callN P n) v sl st).bind fun y st => (fzR y st).bind fun y st => disT x y st) Q := h
    refine ⟨w.addO p (objO p o), sl, rfl, okp, hs.mono evp ok, ?_⟩
    cases q1 : evE P (callN P n) k sl (w.addO p (objO p o)).st with
    | bad => rw [q1] at h; exact h.elim
    | exc cc st1 =>
      rw [q1] at h
      exact fun w2 a b c => h w2 a (evp.trans b) c
    | ok x st1 =>
      rw [q1] at h
      intro xv w2 F1 e1 ev1 ok1 r1 o1
      subst e1
      have hs2 := (hs.mono evp ok).mono ev1 okp
      refine ⟨w2, sl, rfl, ok1, hs2, ?_⟩
      simp only [R.bind] at h
      cases q2 : evE P (callN P n) v sl w2.st with
      | bad => rw [q2] at h; exact h.elim
      | exc cc st2 =>
        rw [q2] at h
        exact fun w3 a b c => h w3 a ((evp.trans ev1).trans b) c
      | ok y st2 =>
        rw [q2] at h
        intro yv w3 F2 e2 ev2 ok2 r2 o2
        subst e2
        simp only [R.bind] at h
        cases q3 : fz y w3.st with
        | none => simp only [fzR, q3] at h; exact h.elim
        | some z =>
          obtain ⟨y', st3⟩ := z
          simp only [fzR, q3] at h
          unfold disT at h
          split at h
          · rename_i cb j kt
            have hcb : cb = bb := hb x w2.st y w3.st y' st3 cb j q1 q2 (by simp only [fzR, q3]) kt
            subst hcb
            obtain ⟨w4, e4, m4, c4⟩ := fz_ok y ok2 r2 o2 q3
            subst e4
            have evA : Ev (w.addO p (objO p o)) w3 := ev1.trans ev2
            have evB : Ev (w.addO p (objO p o)) w4 := m4.ev evA (fun a ha => by
              have := o2.new a ha
              exact ev1.non_ this)
            have ns4 : ¬ w4.S p := fun s => by
              rcases evB.s2 p s with z | z | z
              · exact nsp z
              · rw [trp] at z; cases z
              · exact nrp z.mem
            have nr4 : p ∉ w4.r := fun s => by
              obtain ⟨m, em, nm⟩ := evB.rho
              rw [em] at s
              rcases List.mem_append.mp s with z | z
              · exact nrp z
              · have := nm p z
                rw [trp] at this
                cases this
            have rx3 := ev2.ro ok1 o1 r1
            have rx : RepC G w3.H w3.S xv x := key_closed rx3 kt
            have trk3 : w3.H p = some (objO p o) := evA.keep p _ trp (fun l => nrp l.mem)
            refine ⟨trk3, j, krel_c rx kt, fun o' dO' => ?_⟩
            have rx4 : w4.RC G xv x := m4.rc rx
            have up : ∀ {v : V} {t : T}, w4.RC G v t → RepC G (upd w4.H p (objO p o')) w4.S v t := fun {v t} r => RepC.mono (fun _ s => s) (fun b u s q => by rw [upd_ne (show b ≠ p from fun e => ns4 (e ▸ s))]; exact q) r
            have ev4 : Ev w w4 := evp.trans evB
            have fin := h (.ref p) ⟨upd w4.H p (objO p o'), w4.r, w4.st, w4.S⟩ [p] rfl (own_ev ev4 hp) (own_upd m4.ok ns4 nr4) (.own (g := .dic [j]) (vs := [xv, yv]) ⟨o', upd_same, hsys, by rw [← c.wd]; exact dO'⟩ (.cons (up rx4) (.cons (up c4) .nil))) ⟨by simp, fun b hb => by rw [List.mem_singleton.mp hb]; exact hp, fun b hb => by rw [List.mem_singleton.mp hb]; exact ns4, fun b hb => by rw [List.mem_singleton.mp hb]; exact nr4⟩
            rw [← m4.H]
            exact fin
          · exact h.elim
  refine PE.imp (PE.or (pe_dispF (ik X sc W pk c h1) (iv X sc W pv c h2)) (pe_dispT (by have := c.room.un; omega) (ik X sc W pk c h1) (iv X sc W pv c h2))) fun σ H Q ⟨w, sl, e, ok, hs, h⟩ => ?_
  subst e
  have wh : ∃ bb : Bool, ∀ x st1 y st2 y' st3 cb j, evE P (callN P n) k sl w.st = .ok x st1 → evE P (callN P n) v sl st1 = .ok y st2 → fzR y st2 = .ok y' st3 → keyT x = some (cb, j) → cb = bb := by
    cases q : evE P (callN P n) k sl w.st with
    | ok x st1 =>
      cases kt : keyT x with
      | none => exact ⟨true, fun x' st1' y st2 y' st3 cb j z1 _ _ z2 => by cases z1; rw [kt] at z2; cases z2⟩
      | some q2 => exact ⟨q2.1, fun x' st1' y st2 y' st3 cb j z1 _ _ z2 => by cases z1; rw [kt] at z2; cases z2; rfl⟩
    | _ => exact ⟨true, fun x' st1' y st2 y' st3 cb j z1 => by cases z1⟩
  obtain ⟨bb, hb⟩ := wh
  cases bb with
  | true => exact .inr (go true ok hs h hb)
  | false => exact .inl (go false ok hs h hb)
theorem c_minD {a : E} (ia : SE G P tb n a) : SE G P tb n (.minD a) := by
  intro X sc W p c h
  obtain ⟨ea, px, kk, kp, kq, pos, rfl, hx, h1, h2⟩ := inv_minD h
  obtain ⟨ga, gb, gc, gd⟩ := c.blt hx
  refine PE.imp (pe_callBK (cr_minD c.calm (by have := c.room.un; omega)) ga gd rfl (pa_cons (ia X sc W ea c h1) pa_nil (star_plain h2 _ _)) (pk_cons pe_non pk_nil) gc gb (by rw [star_plain h2]; rfl) (by rw [star_plain h2]; rfl)) fun σ H Q ⟨w, sl, e, ok, hs, h⟩ => ?_
  subst e
  refine Post.bind Ev.refl h ok hs fun x st1 v w1 F1 h e1 ev1 ok1 r1 o1 => ?_
  subst e1
  show rMinD X.K [v] [.non] w1.H Q
  unfold minDT at h
  split at h
  · rename_i q
    obtain ⟨a, rfl, ha⟩ := ints_at ok1 r1 q
    exact ⟨a, [], rfl, rfl, SqL.of ha, fun _ => Post.fin (t := .non) h rfl ev1 ok1 (.cl .non), fun _ _ z => by cases z⟩
  · rename_i k ks q
    obtain ⟨a, rfl, ha⟩ := ints_at ok1 r1 q
    exact ⟨a, k :: ks, rfl, rfl, SqL.of ha, fun z => (by cases z), fun _ _ _ => Post.fin (t := .int (minI (k :: ks))) h rfl ev1 ok1 (.cl (.int _))⟩
  · exact h.elim
theorem c_back {a : E} (ia : SE G P tb n a) : SE G P tb n (.back a) := by
  intro X sc W p c h
  obtain ⟨ea, k, p1, p2, p3, pos, rfl, h1⟩ := inv_back h
  refine PE.imp (pe_revT (ia X sc W ea c h1)) fun σ H Q ⟨w, sl, e, ok, hs, h⟩ => ?_
  subst e
  refine Post.bind Ev.refl h ok hs fun x st1 v w1 F1 h e1 ev1 ok1 r1 o1 => ?_
  subst e1
  unfold backT at h
  split at h
  · rename_i xs q
    obtain ⟨a, vs, rfl, ha, cs⟩ := (node_of ok1 r1 q).clos rfl
    exact ⟨a, vs, rfl, SqT.of ha, fun p hp => h.newFz rfl ev1 ok1 hp (g := .tup) upd_same (RCs_rev cs)⟩
  · exact h.elim
theorem c_dic {a b : Es} : SE G P tb n (.dic a b) := by
  intro X sc W p c h
  obtain ⟨rfl, rfl, pos, rfl⟩ := inv_dic h
  refine PE.imp pe_dnewD fun σ H Q ⟨w, sl, e, ok, hs, h⟩ => ?_
  subst e
  exact Post.newDict c.wd h rfl Ev.refl ok .nil
theorem c_slc {a lo hi : E} (ia : SE G P tb n a) (il : SE G P tb n lo) (ih : SE G P tb n hi) : SE G P tb n (.slc a lo hi) := by
  intro X sc W p c h
  obtain ⟨ea, l, u, p2, pos, rfl, h1, h2, h3⟩ := inv_slc h
  refine PE.imp (pe_slice sl_all (ia X sc W ea c h1) (c_part il c h2) (c_part ih c h3)) fun σ H Q ⟨w, sl, e, ok, hs, h⟩ => ?_
  subst e
  refine Post.bind Ev.refl h ok hs fun x st1 v w1 F1 h e1 ev1 ok1 r1 o1 => ?_
  subst e1
  refine Post.bind ev1 h ok1 (hs.mono ev1 ok) fun y st2 lv w2 F2 h e2 ev2 ok2 r2 o2 => ?_
  subst e2
  have ev12 := ev1.trans ev2
  have fin : ∀ (lo : Option Int), Post G W w σ ((evE P (callN P n) hi sl w2.st).bind fun h st => match partOf (isNop hi) h with
      | some h => slcT x lo h st
      | none => .bad) Q → tPartE G W (isNop hi) (evE P (callN P n) hi) σ w2.H fun u H3 => rSlB X.K v lo u H3 Q := fun lo h => by
    refine Post.bind ev12 h ok2 (hs.mono ev12 ok) fun z st3 hv w3 F3 h e3 ev3 ok3 r3 o3 => ?_
    subst e3
    have r13 := ev3.ro ok2 (o1.mono ev2 (RepO.trk r1)) (ev2.ro ok1 o1 r1)
    have o13 := (o1.mono ev2 (RepO.trk r1)).mono ev3 (RepO.trk (ev2.ro ok1 o1 r1))
    cases hb : isNop hi with
    | true =>
      rw [hb] at h
      exact .inl ⟨rfl, slcT_ok c.K h (ev12.trans ev3) ok3 r13 o13⟩
    | false =>
      rw [hb] at h
      cases z with
      | int i =>
        obtain ⟨rfl, rfl⟩ := RO_int r3
        exact .inr ⟨rfl, i, rfl, slcT_ok c.K h (ev12.trans ev3) ok3 r13 o13⟩
      | _ => exact h.elim
  cases hb : isNop lo with
  | true =>
    rw [hb] at h
    exact .inl ⟨rfl, fin none h⟩
  | false =>
    rw [hb] at h
    cases y with
    | int i =>
      obtain ⟨rfl, rfl⟩ := RO_int r2
      exact .inr ⟨rfl, i, rfl, fin (some i) h⟩
    | _ => exact h.elim
end PC
namespace PC
open PySem PySem.Spec PyProof.Rows L2
variable {G : Glb} {P : Prog} {tb : Tab} {n : Nat}
/-! ### argument lists -/
section
variable {W : WX} {w w1 w2 : Wd} {σ : L2.St} {sl : Slots}
theorem PostL.bind {ev : Slots → Store → R T} {f : T → Store → R (List T)} {Q : List V → Hp → Prop} {Q1 : VK} (e1 : Ev w w1) (h : PostL G W w σ ((ev sl w1.st).bind f) Q) (ok : w1.Ok G) (hs : SlotR G w1 σ sl)
    (k : ∀ x st2 v w2 F, PostL G W w σ (f x st2) Q → w2.st = st2 → Ev w1 w2 → w2.Ok G → w2.RO G v x F → Own w1 w2 F → Q1 v w2.H) : tEv G W ev σ w1.H Q1 := by
  refine ⟨w1, sl, rfl, ok, hs, ?_⟩
  cases q : ev sl w1.st with
  | ok x st2 =>
    rw [q] at h
    exact fun v w2 F a b c d e => k x st2 v w2 F h a b c d e
  | exc c st2 =>
    rw [q] at h
    exact fun w2 a b c => h w2 a (e1.trans b) c
  | bad =>
    rw [q] at h
    exact h
theorem PostL.bindL {ev : Slots → Store → R (List T)} {f : List T → Store → R (List T)} {Q : List V → Hp → Prop} {Q1 : List V → Hp → Prop} (e1 : Ev w w1) (h : PostL G W w σ ((ev sl w1.st).bind f) Q) (ok : w1.Ok G) (hs : SlotR G w1 σ sl)
    (k : ∀ x st2 v w2 F, PostL G W w σ (f x st2) Q → w2.st = st2 → Ev w1 w2 → w2.Ok G → w2.ROs G v x F → Own w1 w2 F → Q1 v w2.H) : tLv G W ev σ w1.H Q1 := by
  refine ⟨w1, sl, rfl, ok, hs, ?_⟩
  cases q : ev sl w1.st with
  | ok x st2 =>
    rw [q] at h
    exact fun v w2 F a b c d e => k x st2 v w2 F h a b c d e
  | exc c st2 =>
    rw [q] at h
    exact fun w2 a b c => h w2 a (e1.trans b) c
  | bad =>
    rw [q] at h
    exact h
end
theorem s_nil : SEs G P tb n .nil := by
  intro X sc W ps c h
  cases ps with
  | nil => exact ⟨PA.imp pa_nil fun σ H Q ⟨w, sl, e, ok, hs, h⟩ => by subst e; exact h [] w [] rfl Ev.refl ok .nil Own.nil, rfl⟩
  | cons _ _ => exact no h rfl
theorem s_cons {e : E} {es : Es} (ie : SE G P tb n e) (is : SEs G P tb n es) : SEs G P tb n (.cons e es) := by
  intro X sc W ps c h
  cases ps with
  | nil => exact no h rfl
  | cons p ps =>
    have h : (mE tb X.N sc e p && plainB p && mEs tb X.N sc es ps) = true := h
    simp only [Bool.and_eq_true] at h
    obtain ⟨⟨h1, h2⟩, h3⟩ := h
    obtain ⟨i1, i2⟩ := is X sc W ps c h3
    refine ⟨PA.imp (pa_cons (ie X sc W p c h1) i1 (star_plain h2 _ _)) fun σ H Q ⟨w, sl, e, ok, hs, h⟩ => ?_, by rw [List.all_cons, h2, i2]; rfl⟩
    subst e
    refine PostL.bind Ev.refl h ok hs fun x st1 v w1 F1 h e1 ev1 ok1 r1 o1 => ?_
    subst e1
    refine PostL.bindL ev1 h ok1 (hs.mono ev1 ok) fun xs st2 vs w2 F2 h e2 ev2 ok2 r2 o2 => ?_
    subst e2
    exact h _ w2 _ rfl (ev1.trans ev2) ok2 (.cons (ev2.ro ok1 o1 r1) r2) ((o1.mono ev2 (RepO.trk r1)).both o2 ev1 (RepO.trk r1))
/-! ### calls -/
theorem call_len {f : Nat} {xs : List T} {st : Store} {W : WX} {w : Wd} {σ : L2.St} {g : T → Store → R T} {Q : VK} (h : Post G W w σ ((callN P n f xs st).bind g) Q) {F : Fn} (e : P.fn f = some F) : xs.length = F.np := by
  cases n with
  | zero => exact h.elim
  | succ k =>
    simp only [callN, e] at h
    split at h
    · assumption
    · exact h.elim
theorem R.bind_ok (r : R T) : (r.bind fun t st => .ok t st) = r := by cases r <;> rfl
theorem get_of_some {α : Type} {o : Option α} (h : o.isSome = true) : ∃ x, o = some x := Option.isSome_iff_exists.mp h
theorem c_call {f : Nat} {es : Es} (ie : SEs G P tb n es) : SE G P tb n (.call f es) := by
  intro X sc W p c h
  obtain ⟨x, px, e, ps, pos, rfl, hg, hf, h1⟩ := inv_call h
  obtain ⟨ga, gb, _⟩ := glB_ok hg c.sc
  obtain ⟨m, k⟩ := c.gl.fn f x hf
  obtain ⟨F, hF⟩ := get_of_some (c.gl.has.1 f x hf)
  obtain ⟨hb, hl⟩ := c.gl.bind f F hF
  obtain ⟨pa, pl⟩ := ie X sc W _ c h1
  rw [List.all_cons, Bool.and_eq_true] at pl
  refine PE.imp (pe_callG (Ex := WE W) (c.fns f F hF) (c.room.mono (by omega)) ga (by rw [c.mg]; exact m) (by rw [c.K]; exact k) (by rw [c.K]; exact hb) c.pass pa gb (star_plain pl.1 _ _) (stars_any pl.2 _ _)) fun σ H Q ⟨w, sl, e, ok, hs, h⟩ => ?_
  subst e
  refine Post.bindL Ev.refl h ok hs fun xs st1 vs w1 F1 h e1 ev1 ok1 r1 o1 => ?_
  subst e1
  rcases fzas_R xs w1.st with ⟨ys, st2, q⟩ | q
  · rw [q] at h
    obtain ⟨w2, e2, m2, c2⟩ := fzas_ok ok1 r1 o1 q
    subst e2
    have h : Post G W w σ (callN P n f ys w2.st) Q := h
    have ev2 := m2.ev ev1 o1.new
    refine ⟨w2, ys, m2.H, m2.ok, c2, ?_, (Post.from ev2 h).toF⟩
    rw [← R.bind_ok (callN P n f ys w2.st)] at h
    rw [c2.length, call_len h hF, hl]
  · rw [q] at h
    exact h.elim
theorem noattr_meth {K : PySem.W.Frag} {C : Addr} {m : Str} {g : Addr} (a : NoAttr K C m) (b : Meth K C m g) : False := by
  have := b.at_
  rw [show PySem.W.findIn K (.ref C) m = some none from a] at this
  cases this
theorem zip_none {m : Str} : ∀ {fn : List Str} {vs : List V}, m ∉ fn → (fn.zip vs).lookup m = none
  | [], _, _ => rfl
  | _ :: _, [], _ => rfl
  | f :: fn, v :: vs, h => by
    have h1 : (m == f) = false := by
      rw [beq_eq_false_iff_ne]
      intro e
      exact h (by simp [e])
    simp only [List.zip_cons_cons, List.lookup_cons, h1]
    exact zip_none fun z => h (by simp [z])
theorem cls_of {w : Wd} (ok : w.Ok G) {v : V} {t : T} {F : List Addr} (r : w.RO G v t F) {c : Nat} (h : classOf w.st t = some c) : ∃ a dx fn vs, v = .ref a ∧ w.H a = some (.ins (G.cls c) dx (List.zip fn vs)) ∧ ObjN G c fn := by
  unfold classOf at h
  split at h
  · rename_i q
    cases h
    obtain ⟨a, vs, F', rfl, ⟨hn, hl, dx, ha⟩, cs, sb⟩ := (node_of ok r q).read
    exact ⟨a, dx, _, vs, rfl, ha, hn⟩
  · cases h
theorem fzaR_or (t : T) (st : Store) : (∃ ts' st', fza t st = some (ts', st') ∧ fzaR t st = .ok ts' st') ∨ fzaR t st = .bad := by
  unfold fzaR
  cases fza t st with
  | none => exact .inr rfl
  | some z => obtain ⟨a, b⟩ := z; exact .inl ⟨a, b, rfl, rfl⟩
theorem meth_core {X : Cx} {sc : Scope} {W : WX} {m : Str} {o : E} {es : Es} (c : Ctx G P tb n X sc W) {w : Wd} {σ : L2.St} {sl : Slots} {Q : VK} (ok : w.Ok G) (hs : SlotR G w σ sl)
    (h : Post G W w σ (evE P (callN P n) (.meth m o es) sl w.st) Q) :
    tEv G W (evE P (callN P n) o) σ w.H fun x H1 => ∃ (a C dx : Addr) (fs : List (Str × V)) (g : Addr) (fd : FuncData) (ps : List Str) (sp : Sp) (k : Nat), x = .ref a ∧ H1 a = some (.ins C dx fs) ∧ Cls X.K C ∧ Meth X.K C m g ∧ fs.lookup m = none ∧
      FnG X.prog X.w X.K X.mg X.base (L2N.CX X.prog X.w) k g fd ps sp ∧ RoomG k X.A ∧ Binds X.K fd ps [] ∧ tLv G W (evEs P (callN P n) es) σ H1 fun vs H2 => sp (x :: vs) H2 Q (WE W σ) := by
  refine Post.bind Ev.refl h ok hs fun x st1 v w1 F1 h e1 ev1 ok1 r1 o1 => ?_
  subst e1
  rcases fzaR_or x w1.st with ⟨y, st2, q0, q⟩ | q
  · rw [q] at h
    obtain ⟨w2, e2, m2, c2⟩ := fza_ok ok1 r1 o1 q0
    subst e2
    have ev2 := m2.ev ev1 o1.new
    simp only [R.bind] at h
    cases q3 : classOf w2.st y with
    | none => rw [q3] at h; exact h.elim
    | some cc =>
      rw [q3] at h
      simp only at h
      cases q4 : P.meths.lookup (cc, m) with
      | none => rw [q4] at h; exact h.elim
      | some f =>
        rw [q4] at h
        obtain ⟨a, dx, fn, vs, rfl, ha, hn⟩ := cls_of m2.ok (.of0 c2) q3
        obtain ⟨F, hF⟩ := get_of_some (c.gl.has.2.1 cc m f q4)
        obtain ⟨hb, hl⟩ := c.gl.bind f F hF
        have hm := c.gl.meth cc m f q4
        refine ⟨a, G.cls cc, dx, _, G.fa f, G.fd f, G.ps f, _, _, rfl, m2.H ▸ ha, by rw [c.K]; exact hn.1, by rw [c.K]; exact hm, zip_none fun z => noattr_meth (hn.2 m z) hm, c.fns f F hF, c.room.mono (by omega), by rw [c.K]; exact hb, ?_⟩
        rw [← m2.H]
        refine Post.bindL ev2 h m2.ok (hs.mono ev2 ok) fun xs st3 vs3 w3 F3 h e3 ev3 ok3 r3 o3 => ?_
        subst e3
        rcases fzas_R xs w3.st with ⟨ys, st4, q5⟩ | q5
        · rw [q5] at h
          obtain ⟨w4, e4, m4, c4⟩ := fzas_ok ok3 r3 o3 q5
          subst e4
          have h : Post G W w σ (callN P n f (y :: ys) w4.st) Q := h
          have ev4 := m4.ev (ev2.trans ev3) fun b hb => ev2.non_ (o3.new b hb)
          refine ⟨w4, y :: ys, m4.H, m4.ok, .cons (m4.r0 (ev3.r0 m2.ok c2)) c4, ?_, (Post.from ev4 h).toF⟩
          rw [← R.bind_ok (callN P n f (y :: ys) w4.st)] at h
          have := call_len h hF
          rw [List.length_cons, c4.length, hl, ← this, List.length_cons]
        · rw [q5] at h
          exact h.elim
  · rw [q] at h
    exact h.elim
theorem meth_pe {X : Cx} {sc : Scope} {W : WX} {m : Str} {o : E} {es : Es} {eo : Expr} {apos pos : Pos} {ps : List Expr} (io : SE G P tb n o) (ie : SEs G P tb n es) (c : Ctx G P tb n X sc W) (h1 : mE tb X.N sc o eo = true) (h2 : baseB eo = true) (h3 : mEs tb X.N sc es ps = true)
    (h4 : (apos.endLine == pos.line) = true) (h5 : ps.length < 20) : PE X (.Call (.Attribute eo m apos) ps [] pos) (tEv G W (evE P (callN P n) (.meth m o es))) := by
  obtain ⟨pa, pl⟩ := ie X sc W _ c h3
  cases ps with
  | cons e ps => exact PE.imp (pe_methD (E := WE W) (io X sc W eo c h1) pa c.pass h2 pl h4 h5) fun σ H Q ⟨w, sl, e, ok, hs, h⟩ => by subst e; exact meth_core c ok hs h
  | nil =>
    refine PE.imp (pe_methD0 (E := WE W) (io X sc W eo c h1) c.pass h2 h4) fun σ H Q ⟨w, sl, e, ok, hs, h⟩ => ?_
    subst e
    have hes : es = .nil := by cases es with | nil => rfl | cons _ _ => exact no h3 rfl
    subst hes
    obtain ⟨w', sl', e1, o1, s1, q⟩ := meth_core c ok hs h
    refine ⟨w', sl', e1, o1, s1, ?_⟩
    cases q2 : evE P (callN P n) o sl' w'.st with
    | bad => rw [q2] at q; exact q
    | exc k st => rw [q2] at q; exact q
    | ok t st =>
      rw [q2] at q
      intro v w5 F5 a b d e f
      obtain ⟨a, C, dx, fs, g, fd, ps, sp, k, p1, p2, p3, p4, p5, p6, p7, p8, ⟨w6, sl6, z1, z2, z3, z4⟩⟩ := q v w5 F5 a b d e f
      refine ⟨a, C, dx, fs, g, fd, ps, sp, k, p1, p2, p3, p4, p5, p6, p7, p8, ?_⟩
      have := z4 [] w6 [] rfl Ev.refl z2 .nil Own.nil
      rw [z1] at this
      exact this
theorem c_meth {m : Str} {o : E} {es : Es} (io : SE G P tb n o) (ie : SEs G P tb n es) : SE G P tb n (.meth m o es) := by
  intro X sc W p c h
  obtain ⟨eo, apos, ps, pos, rfl, h1, h2, h3, h4, h5⟩ := inv_meth h
  exact meth_pe io ie c h1 h2 h3 h4 h5
theorem c_fld {o : E} {f : Str} (io : SE G P tb n o) : SE G P tb n (.fld o f) := by
  intro X sc W p c h
  obtain ⟨eo, pos, rfl, h1, h2⟩ := inv_fld h
  refine PE.imp (pe_fld (io X sc W eo c h1) (base_plain h2 _ _ _)) fun σ H Q ⟨w, sl, e, ok, hs, h⟩ => ?_
  subst e
  refine Post.bind Ev.refl h ok hs fun x st1 v w1 F1 h e1 ev1 ok1 r1 o1 => ?_
  subst e1
  exact fldT_ok c.K h ev1 ok1 r1 o1
theorem c_keep {d : Nat} {e : E} (ie : SE G P tb n e) : SE G P tb n (.keep d e) := by
  intro X sc W p c h
  have h : mE tb X.N sc e p = true := by cases p <;> exact h
  refine PE.imp (ie X sc W p c h) fun σ H Q ⟨w, sl, e, ok, hs, h⟩ => ?_
  subst e
  refine Post.bind Ev.refl h ok hs fun x st1 v w1 F1 h e1 ev1 ok1 r1 o1 => ?_
  subst e1
  cases q : kp d x w1.st with
  | none => rw [q] at h; exact h.elim
  | some z =>
    obtain ⟨t, st2⟩ := z
    rw [q] at h
    obtain ⟨w2, e2, g2, c2⟩ := kp_ok d x ok1 r1 o1 q
    subst e2
    rw [← g2.H]
    exact h.fin rfl (g2.ev ev1 o1.new) g2.ok c2
end PC
namespace PC
open PySem PySem.Spec PyProof.Rows L2 PySem.SeqAt
/-! ### list.remove of data -/
def rRemD (K : PySem.W.Frag) : V → List V → Hp → VK → Prop := fun x xs H Q => ∃ (a : Addr) (vs : List V) (ds : List PyData) (y : V) (d : PyData) (j : Nat), x = .ref a ∧ xs = [y] ∧ H a = some (.lst vs) ∧ DpAll K H vs ds ∧ Dp K H y d ∧ PyData.plainAll ds = true ∧ d.plain = true ∧ d.depth ≤ 60 ∧
  dataPlace ds d = some j ∧ Q .non (upd H a (.lst (vs.eraseIdx j)))
theorem mt_removeD {X : Cx} (hu : X.A.units + 65 < cLine) : MtR X "list.remove" (rRemD X.K) := by
  intro pins s σ H x xs v us Q I rx rs h
  obtain ⟨a, vs, ds, y, d, j, rfl, rfl, ha, dl, dy, h1, h2, h3, h4, q⟩ := h
  obtain rfl : v = Value.ref a := rx
  obtain ⟨u, rfl, ru⟩ := vals1 rs
  obtain ⟨its, n, rv, ho, hz⟩ := I.lst ha
  obtain ⟨bs, r1⟩ := Dp.reads I d y u dy ru
  obtain ⟨as, r2⟩ := Dp.readsAll I ds vs its dl rv
  have hm := Nat.min_le_right (PyData.depthAll ds) d.depth
  refine remove_list_data (vs := its.toArray) ⟨_, ho, rfl, n, rfl⟩ r2 r1 h1 h2 (by omega) h4 (by simpa [← rv.length] using hz) ?_
  have hj : j < ds.length := (List.findIdx?_eq_some_iff_getElem.mp h4).1
  have hl : its.length = ds.length := ReadsAll.length ds its as r2
  obtain ⟨n', e⟩ : ∃ n', Obj.mapSeq (fun ys => ys.eraseIdxIfInBounds j) { cls := .type "list", data := .seq its.toArray n } = { cls := .type "list", data := .seq (its.eraseIdx j).toArray n' } := by
    simp [Obj.mapSeq, Array.eraseIdxIfInBounds, hl, hj]
  exact ⟨.non, _, I.lstUpd (its' := its.eraseIdx j) ha ho e (Vals.eraseIdx j rv) (Nat.le_trans (len_erase vs j) hz) s.toks, rfl, q⟩
end PC
namespace PC
open PySem PySem.Spec PyProof.Rows L2
variable {G : Glb} {P : Prog} {tb : Tab} {n : Nat}
/-! ### writing a cell -/
def Wd.wr (w : Wd) (k : Nat) (a : Addr) (o : HO) (t : T) : Wd := ⟨upd w.H a o, w.r, w.st.set k t, w.S⟩
theorem Wd.Ok.wr {w : Wd} (ok : w.Ok G) {k : Nat} {a : Addr} {g : Tag} {ow : Ow} {xs : List T} {t' : T} {o : HO} (h1 : w.r[k]? = some a) (h2 : w.st[k]? = some (.nd g ow xs)) (hw : ow = .own ∨ ow = .opn)
    (c : CellOk G (w.wr k a o t') k a t') : (w.wr k a o t').Ok G ∧ Ev w (w.wr k a o t') := by
  have lv : Live w a := ⟨k, g, ow, xs, h1, h2, hw⟩
  have na := ok.live lv
  have kS : ∀ b u, w.S b → w.H b = some u → upd w.H a o b = some u := fun b u s h => by
    rw [upd_ne (show b ≠ a from fun e => na (e ▸ s))]
    exact h
  refine ⟨⟨by simp [Wd.wr, ok.len], ok.nd, fun j b t q1 q2 => ?_, fun b s => ?_⟩, ⟨⟨[], by simp [Wd.wr], by simp⟩, fun _ s => s, fun _ s => .inl s, fun b u h nl => ?_, fun b u h => ?_, fun b l => ?_⟩⟩
  · by_cases e : k = j
    · subst e
      have eb : a = b := Option.some.inj (h1.symm.trans q1)
      subst eb
      have hk : k < w.st.length := (List.getElem?_eq_some_iff.mp h2).1
      have q2' : (w.st.set k t')[k]? = some t := q2
      rw [List.getElem?_set_self hk] at q2'
      cases q2'
      exact c
    · have q2' : (w.st.set k t')[j]? = some t := q2
      rw [List.getElem?_set_ne e] at q2'
      have hne : b ≠ a := fun z => e (nodup_at ok.nd h1 (z ▸ q1))
      exact CellOk.mono (w := w) (w' := w.wr k a o t') (fun _ s => s) (fun n => n) kS (fun u h => by show upd w.H a o b = some u; rw [upd_ne hne]; exact h) (fun _ _ z => z) (ok.cells j b t q1 q2')
  · obtain ⟨u, h⟩ := ok.trk b s
    exact ⟨u, kS b u s h⟩
  · show upd w.H a o b = some u
    rw [upd_ne (show b ≠ a from fun e => nl (e ▸ lv))]
    exact h
  · by_cases e : b = a
    · exact ⟨o, by rw [e]; exact upd_same⟩
    · exact ⟨u, by show upd w.H a o b = some u; rw [upd_ne e]; exact h⟩
  · rcases live_set h1 ok.nd l with l | e
    · exact .inl l
    · rw [e]; exact .inl lv
theorem wr_rcs {w : Wd} (ok : w.Ok G) {k : Nat} {a : Addr} {o : HO} {t : T} (na : ¬ w.S a) {vs : List V} {xs : List T} (h : w.RCs G vs xs) : (w.wr k a o t).RCs G vs xs :=
  h.mono (fun _ s => s) fun b u s q => by show upd w.H a o b = some u; rw [upd_ne (show b ≠ a from fun e => na (e ▸ s))]; exact q
theorem wr_0s {w : Wd} (ok : w.Ok G) {k : Nat} {a : Addr} {o : HO} {t : T} {r : List Addr} (na : ¬ w.S a) {vs : List V} {xs : List T} (h : Rep0s G w.H w.S r vs xs) : Rep0s G (w.wr k a o t).H (w.wr k a o t).S r vs xs :=
  h.mono (fun _ s => s) (fun b u s q => by show upd w.H a o b = some u; rw [upd_ne (show b ≠ a from fun e => na (e ▸ s))]; exact q) fun _ _ z => z
theorem wr_rc {w : Wd} (ok : w.Ok G) {k : Nat} {a : Addr} {o : HO} {t : T} (na : ¬ w.S a) {v : V} {x : T} (h : w.RC G v x) : (w.wr k a o t).RC G v x :=
  h.mono (fun _ s => s) fun b u s q => by show upd w.H a o b = some u; rw [upd_ne (show b ≠ a from fun e => na (e ▸ s))]; exact q
/-! ### methods of lists -/
theorem RO_ref {w : Wd} {v : V} {k : Nat} {F : List Addr} (h : w.RO G v (.ref k) F) : ∃ a, v = .ref a ∧ w.r[k]? = some a ∧ F = [] := by
  cases h with
  | of0 h =>
    cases h with
    | cl h => cases h
    | ref h => exact ⟨_, rfl, h, rfl⟩
theorem isLst_ty {w : Wd} {K : PySem.W.Frag} (ok : w.Ok G) {v : V} {t : T} {F : List Addr} (r : w.RO G v t F) (h : isLst w.st t = true) : tyV K "list" v w.H := by
  unfold isLst at h
  split at h
  · rename_i q
    obtain ⟨a, vs, F', rfl, ha, _, _⟩ := (node_of ok r q).read
    exact .inl ⟨rfl, vs, SqL.of ha⟩
  · cases h
theorem bm_append {W : WX} {w w2 : Wd} {σ : L2.St} {x : T} {xs : List T} {v : V} {vs : List V} {F F2 : List Addr} {Q : VK} (h : Post G W w σ (bmR .append x xs w2.st) Q) (ev : Ev w w2) (ok : w2.Ok G) (r : w2.RO G v x F) (rs : w2.ROs G vs xs F2) (o : Own w w2 F2) :
    rAppend v vs w2.H Q := by
  cases x with
  | ref k =>
    obtain ⟨a, rfl, hk, rfl⟩ := RO_ref r
    cases xs with
    | nil => exact h.elim
    | cons x xs =>
      cases xs with
      | cons _ _ => exact h.elim
      | nil =>
        obtain ⟨u, rfl, h1⟩ := ROs1 rs
        simp only [bmR, bmop] at h
        split at h
        · rename_i y st3 q
          obtain ⟨w3, e3, m3, c3⟩ := fz_ok _ ok h1 o q
          subst e3
          have hk3 : w3.r[k]? = some a := by rw [m3.r]; exact hk
          have ev3 := m3.ev ev o.new
          rw [← m3.H]
          split at h
          · rename_i ys q2
            split at h
            · rename_i hl
              obtain ⟨ns, vs, ha, cs⟩ := m3.ok.cells k a _ hk3 q2
              have g := m3.ok.wr (o := .lst (vs ++ [u])) (t' := .nd .lst .own (ys ++ [y])) hk3 q2 (.inl rfl) ⟨ns, vs ++ [u], upd_same, (wr_rcs m3.ok ns cs).append (.cons (wr_rc m3.ok ns c3) .nil)⟩
              exact ⟨a, vs, u, rfl, rfl, ha, by rw [cs.length]; exact hl, Post.fin (w1 := w3.wr k a (.lst (vs ++ [u])) (.nd .lst .own (ys ++ [y]))) h rfl (ev3.trans g.2) g.1 (.cl .non)⟩
            · exact h.elim
          · rename_i ys q2
            split at h
            · rename_i hl
              obtain ⟨ns, vs, ha, cs⟩ := m3.ok.cells k a _ hk3 q2
              have g := m3.ok.wr (o := .lst (vs ++ [u])) (t' := .nd .lst .opn (ys ++ [y])) hk3 q2 (.inr rfl) ⟨ns, vs ++ [u], upd_same, (wr_0s m3.ok ns cs).append (.cons (.cl (wr_rc m3.ok ns c3)) .nil)⟩
              exact ⟨a, vs, u, rfl, rfl, ha, by rw [cs.length]; exact hl, Post.fin (w1 := w3.wr k a (.lst (vs ++ [u])) (.nd .lst .opn (ys ++ [y]))) h rfl (ev3.trans g.2) g.1 (.cl .non)⟩
            · exact h.elim
          · exact h.elim
        · exact h.elim
  | _ => exact h.elim
theorem bm_extend {W : WX} {w w2 : Wd} {σ : L2.St} {x : T} {xs : List T} {v : V} {vs : List V} {F F2 : List Addr} {Q : VK} (h : Post G W w σ (bmR .extend x xs w2.st) Q) (ev : Ev w w2) (ok : w2.Ok G) (r : w2.RO G v x F) (rs : w2.ROs G vs xs F2) (o : Own w w2 F2) :
    rExtendX G.K v vs w2.H Q := by
  cases x with
  | ref k =>
    obtain ⟨a, rfl, hk, rfl⟩ := RO_ref r
    cases xs with
    | nil => exact h.elim
    | cons x xs =>
      cases xs with
      | cons _ _ => exact h.elim
      | nil =>
        obtain ⟨u, rfl, h1⟩ := ROs1 rs
        simp only [bmR, bmop] at h
        split at h
        · rename_i ow zs q
          split at h
          · rename_i ys q2
            split at h
            · rename_i hl
              rw [Bool.and_eq_true] at hl
              obtain ⟨b, us, rfl, hb, bs⟩ := (node_of ok h1 q).clos hl.2
              obtain ⟨ns, vs, ha, cs⟩ := ok.cells k a _ hk q2
              have g := ok.wr (o := .lst (vs ++ us)) (t' := .nd .lst .own (ys ++ zs)) hk q2 (.inl rfl) ⟨ns, vs ++ us, upd_same, (wr_rcs ok ns cs).append (wr_rcs ok ns bs)⟩
              exact .inl ⟨a, b, vs, us, rfl, rfl, ha, hb, by rw [cs.length, bs.length]; exact lenOk_le hl.1, Post.fin (w1 := w2.wr k a (.lst (vs ++ us)) (.nd .lst .own (ys ++ zs))) h rfl (ev.trans g.2) g.1 (.cl .non)⟩
            · exact h.elim
          · rename_i ys q2
            split at h
            · rename_i hl
              rw [Bool.and_eq_true] at hl
              obtain ⟨b, us, rfl, hb, bs⟩ := (node_of ok h1 q).clos hl.2
              obtain ⟨ns, vs, ha, cs⟩ := ok.cells k a _ hk q2
              have g := ok.wr (o := .lst (vs ++ us)) (t' := .nd .lst .opn (ys ++ zs)) hk q2 (.inr rfl) ⟨ns, vs ++ us, upd_same, (wr_0s ok ns cs).append (wr_rcs ok ns bs).to0⟩
              exact .inl ⟨a, b, vs, us, rfl, rfl, ha, hb, by rw [cs.length, bs.length]; exact lenOk_le hl.1, Post.fin (w1 := w2.wr k a (.lst (vs ++ us)) (.nd .lst .opn (ys ++ zs))) h rfl (ev.trans g.2) g.1 (.cl .non)⟩
            · exact h.elim
          · exact h.elim
        · rename_i ow zs q
          split at h
          · rename_i ys q2
            split at h
            · rename_i hl
              rw [Bool.and_eq_true] at hl
              obtain ⟨b, us, rfl, hb, bs⟩ := (node_of ok h1 q).clos hl.2
              obtain ⟨ns, vs, ha, cs⟩ := ok.cells k a _ hk q2
              have g := ok.wr (o := .lst (vs ++ us)) (t' := .nd .lst .own (ys ++ zs)) hk q2 (.inl rfl) ⟨ns, vs ++ us, upd_same, (wr_rcs ok ns cs).append (wr_rcs ok ns bs)⟩
              exact .inr ⟨a, b, vs, us, rfl, rfl, ha, SqT.of hb, by rw [cs.length, bs.length]; exact lenOk_le hl.1, Post.fin (w1 := w2.wr k a (.lst (vs ++ us)) (.nd .lst .own (ys ++ zs))) h rfl (ev.trans g.2) g.1 (.cl .non)⟩
            · exact h.elim
          · rename_i ys q2
            split at h
            · rename_i hl
              rw [Bool.and_eq_true] at hl
              obtain ⟨b, us, rfl, hb, bs⟩ := (node_of ok h1 q).clos hl.2
              obtain ⟨ns, vs, ha, cs⟩ := ok.cells k a _ hk q2
              have g := ok.wr (o := .lst (vs ++ us)) (t' := .nd .lst .opn (ys ++ zs)) hk q2 (.inr rfl) ⟨ns, vs ++ us, upd_same, (wr_0s ok ns cs).append (wr_rcs ok ns bs).to0⟩
              exact .inr ⟨a, b, vs, us, rfl, rfl, ha, SqT.of hb, by rw [cs.length, bs.length]; exact lenOk_le hl.1, Post.fin (w1 := w2.wr k a (.lst (vs ++ us)) (.nd .lst .opn (ys ++ zs))) h rfl (ev.trans g.2) g.1 (.cl .non)⟩
            · exact h.elim
          · exact h.elim
        · exact h.elim
  | _ => exact h.elim
theorem bm_clear {W : WX} {w w2 : Wd} {σ : L2.St} {x : T} {xs : List T} {v : V} {vs : List V} {F F2 : List Addr} {Q : VK} (h : Post G W w σ (bmR .clear x xs w2.st) Q) (ev : Ev w w2) (ok : w2.Ok G) (r : w2.RO G v x F) (rs : w2.ROs G vs xs F2) (o : Own w w2 F2) :
    rClear v vs w2.H Q := by
  cases x with
  | ref k =>
    obtain ⟨a, rfl, hk, rfl⟩ := RO_ref r
    cases xs with
    | cons _ _ => exact h.elim
    | nil =>
      cases rs
      simp only [bmR, bmop] at h
      split at h
      · rename_i ys q2
        obtain ⟨ns, vs, ha, cs⟩ := ok.cells k a _ hk q2
        have g := ok.wr (o := .lst []) (t' := .nd .lst .own []) hk q2 (.inl rfl) ⟨ns, [], upd_same, .nil⟩
        exact ⟨a, vs, rfl, rfl, ha, Post.fin (w1 := w2.wr k a (.lst []) (.nd .lst .own [])) h rfl (ev.trans g.2) g.1 (.cl .non)⟩
      · rename_i ys q2
        obtain ⟨ns, vs, ha, cs⟩ := ok.cells k a _ hk q2
        have g := ok.wr (o := .lst []) (t' := .nd .lst .own []) hk q2 (.inr rfl) ⟨ns, [], upd_same, .nil⟩
        exact ⟨a, vs, rfl, rfl, ha, Post.fin (w1 := w2.wr k a (.lst []) (.nd .lst .own [])) h rfl (ev.trans g.2) g.1 (.cl .non)⟩
      · exact h.elim
  | _ => exact h.elim
theorem RCs_dropLast {w : Wd} {vs : List V} {xs : List T} (c : w.RCs G vs xs) : w.RCs G vs.dropLast xs.dropLast := by
  rw [List.dropLast_eq_take, List.dropLast_eq_take, ← c.length]
  exact RepCs.take _ c
theorem RCs_erase {w : Wd} {vs : List V} {xs : List T} (k : Nat) (c : w.RCs G vs xs) : w.RCs G (vs.eraseIdx k) (xs.eraseIdx k) := by
  rw [List.eraseIdx_eq_take_drop_succ, List.eraseIdx_eq_take_drop_succ]
  exact (RepCs.take k c).append (RepCs.drop (k + 1) c)
theorem bm_pop0 {W : WX} {w w2 : Wd} {σ : L2.St} {x : T} {xs : List T} {v : V} {vs : List V} {F F2 : List Addr} {Q : VK} (h : Post G W w σ (bmR .pop0 x xs w2.st) Q) (ev : Ev w w2) (ok : w2.Ok G) (r : w2.RO G v x F) (rs : w2.ROs G vs xs F2) (o : Own w w2 F2) :
    rPop v vs w2.H Q := by
  cases x with
  | ref k =>
    obtain ⟨a, rfl, hk, rfl⟩ := RO_ref r
    cases xs with
    | cons _ _ => exact h.elim
    | nil =>
      cases rs
      simp only [bmR, bmop] at h
      split at h
      · rename_i ys q2
        split at h
        · rename_i y hy
          obtain ⟨ns, vs, ha, cs⟩ := ok.cells k a _ hk q2
          obtain ⟨u, hu, ru⟩ := cs.get hy
          have g := ok.wr (o := .lst vs.dropLast) (t' := .nd .lst .own ys.dropLast) hk q2 (.inl rfl) ⟨ns, vs.dropLast, upd_same, wr_rcs ok ns (RCs_dropLast cs)⟩
          exact ⟨a, vs, u, rfl, rfl, ha, by rw [cs.length]; exact hu, Post.fin (w1 := w2.wr k a (.lst vs.dropLast) (.nd .lst .own ys.dropLast)) h rfl (ev.trans g.2) g.1 (.cl (wr_rc ok ns ru))⟩
        · exact h.elim
      · exact h.elim
  | _ => exact h.elim
theorem bm_pop1 {W : WX} {w w2 : Wd} {σ : L2.St} {x : T} {xs : List T} {v : V} {vs : List V} {F F2 : List Addr} {Q : VK} (h : Post G W w σ (bmR .pop1 x xs w2.st) Q) (ev : Ev w w2) (ok : w2.Ok G) (r : w2.RO G v x F) (rs : w2.ROs G vs xs F2) (o : Own w w2 F2) :
    rPopAt v vs w2.H Q := by
  cases x with
  | ref k =>
    obtain ⟨a, rfl, hk, rfl⟩ := RO_ref r
    cases xs with
    | nil => exact h.elim
    | cons x xs =>
      cases xs with
      | cons _ _ => cases x <;> exact h.elim
      | nil =>
        cases x <;> try exact h.elim
        rename_i i
        obtain ⟨u0, rfl, h1⟩ := ROs1 rs
        obtain ⟨rfl, _⟩ := RO_int h1
        simp only [bmR, bmop] at h
        split at h
        · rename_i ys q2
          split at h
          · rename_i j hj
            split at h
            · rename_i y hy
              split at h
              · rename_i hi
                simp only [Bool.and_eq_true, decide_eq_true_eq] at hi
                obtain ⟨ns, vs, ha, cs⟩ := ok.cells k a _ hk q2
                obtain ⟨u, hu, ru⟩ := cs.get hy
                have g := ok.wr (o := .lst (vs.eraseIdx j)) (t' := .nd .lst .own (ys.eraseIdx j)) hk q2 (.inl rfl) ⟨ns, vs.eraseIdx j, upd_same, wr_rcs ok ns (RCs_erase j cs)⟩
                exact ⟨a, vs, i, j, u, rfl, rfl, ha, hi.1, hi.2, by rw [cs.length]; exact hj, hu, Post.fin (w1 := w2.wr k a (.lst (vs.eraseIdx j)) (.nd .lst .own (ys.eraseIdx j))) h rfl (ev.trans g.2) g.1 (.cl (wr_rc ok ns ru))⟩
              · exact h.elim
            · exact h.elim
          · exact h.elim
        · exact h.elim
  | _ => exact h.elim
def rInsA : V → List V → Hp → VK → Prop := fun x vs H Q => ∃ (l : Addr) (xs : List V) (i : Int) (y : V), x = .ref l ∧ vs = [.int i, y] ∧ H l = some (.lst xs) ∧ xs.length < sizeLine ∧ 0 ≤ i ∧ i < 2 ^ 63 ∧ Q .non (upd H l (.lst (xs.take i.toNat ++ [y] ++ xs.drop i.toNat)))
theorem bm_insert {W : WX} {w w2 : Wd} {σ : L2.St} {x : T} {xs : List T} {v : V} {vs : List V} {F F2 : List Addr} {Q : VK} (h : Post G W w σ (bmR .insert x xs w2.st) Q) (ev : Ev w w2) (ok : w2.Ok G) (r : w2.RO G v x F) (rs : w2.ROs G vs xs F2) (o : Own w w2 F2) :
    rInsA v vs w2.H Q := by
  cases x with
  | ref k =>
    obtain ⟨a, rfl, hk, rfl⟩ := RO_ref r
    cases xs with
    | nil => exact h.elim
    | cons x xs =>
      cases xs with
      | nil => cases x <;> exact h.elim
      | cons y xs =>
        cases xs with
        | cons _ _ => cases x <;> exact h.elim
        | nil =>
          cases x <;> try exact h.elim
          rename_i i
          obtain ⟨u0, u, F3, F4, rfl, h1, h2, rfl⟩ := ROs2 rs
          obtain ⟨rfl, _⟩ := RO_int h1
          simp only [bmR, bmop] at h
          split at h
          · rename_i y' st3 q
            obtain ⟨w3, e3, m3, c3⟩ := fz_ok _ ok h2 (o.sub (List.sublist_append_right _ _)) q
            subst e3
            have hk3 : w3.r[k]? = some a := by rw [m3.r]; exact hk
            have ev3 := m3.ev ev (o.sub (List.sublist_append_right _ _)).new
            rw [← m3.H]
            split at h
            · rename_i ys q2
              split at h
              · rename_i hl
                simp only [Bool.and_eq_true, decide_eq_true_eq] at hl
                obtain ⟨ns, vs, ha, cs⟩ := m3.ok.cells k a _ hk3 q2
                have c4 : w3.RCs G (vs.take i.toNat ++ [u] ++ vs.drop i.toNat) (ys.take i.toNat ++ [y'] ++ ys.drop i.toNat) := ((RepCs.take _ cs).append (.cons c3 .nil)).append (RepCs.drop _ cs)
                have g := m3.ok.wr (o := .lst (vs.take i.toNat ++ [u] ++ vs.drop i.toNat)) (t' := .nd .lst .own (ys.take i.toNat ++ [y'] ++ ys.drop i.toNat)) hk3 q2 (.inl rfl) ⟨ns, _, upd_same, wr_rcs m3.ok ns c4⟩
                exact ⟨a, vs, i, u, rfl, rfl, ha, by rw [cs.length]; exact hl.1.1, hl.1.2, hl.2, Post.fin (w1 := w3.wr k a (.lst (vs.take i.toNat ++ [u] ++ vs.drop i.toNat)) (.nd .lst .own (ys.take i.toNat ++ [y'] ++ ys.drop i.toNat))) h rfl (ev3.trans g.2) g.1 (.cl .non)⟩
              · exact h.elim
            · exact h.elim
          · exact h.elim
  | _ => exact h.elim
theorem bm_remove {W : WX} {w w2 : Wd} {σ : L2.St} {x : T} {xs : List T} {v : V} {vs : List V} {F F2 : List Addr} {Q : VK} (h : Post G W w σ (bmR .remove x xs w2.st) Q) (ev : Ev w w2) (ok : w2.Ok G) (r : w2.RO G v x F) (rs : w2.ROs G vs xs F2) (o : Own w w2 F2) :
    rRemD G.K v vs w2.H Q := by
  cases x with
  | ref k =>
    obtain ⟨a, rfl, hk, rfl⟩ := RO_ref r
    obtain ⟨x, rfl⟩ : ∃ x, xs = [x] := by
      cases xs with
      | nil => exact h.elim
      | cons x xs =>
        cases xs with
        | nil => exact ⟨x, rfl⟩
        | cons _ _ => cases x <;> exact h.elim
    · skip
      obtain ⟨u, rfl, ru⟩ := ROs1 rs
      simp only [bmR, bmop] at h
      split at h
      · rename_i ys q2
        split at h
        · rename_i ds d q3 q4
          split at h
          · rename_i j hj
            split at h
            · rename_i hp
              simp only [Bool.and_eq_true, decide_eq_true_eq] at hp
              obtain ⟨ns, us, ha, cs⟩ := ok.cells k a _ hk q2
              have g := ok.wr (o := .lst (us.eraseIdx j)) (t' := .nd .lst .own (ys.eraseIdx j)) hk q2 (.inl rfl) ⟨ns, us.eraseIdx j, upd_same, wr_rcs ok ns (RCs_erase j cs)⟩
              exact ⟨a, us, ds, u, d, j, rfl, rfl, ha, dp_cs cs q3, dp_o (fun _ _ _ _ e => by cases e) ru q4, hp.1.1, hp.1.2, hp.2, hj, Post.fin (w1 := w2.wr k a (.lst (us.eraseIdx j)) (.nd .lst .own (ys.eraseIdx j))) h rfl (ev.trans g.2) g.1 (.cl .non)⟩
            · exact h.elim
          · exact h.elim
        · exact h.elim
      · exact h.elim
  | _ => exact h.elim
theorem ix_of_ok {W : WX} {w w2 : Wd} {σ : L2.St} {x : T} {xs : List T} {v : V} {vs : List V} {F F2 : List Addr} {Q : VK} (h : Post G W w σ (bmR .index x xs w2.st) Q) (ev : Ev w w2) (ok : w2.Ok G) (r : w2.RO G v x F) (rs : w2.ROs G vs xs F2) (o : Own w w2 F2) :
    rIndexD G.K v vs w2.H Q := by
  have h : Post G W w σ (ixOfT x xs w2.st) Q := h
  unfold ixOfT at h
  split at h
  · rename_i y
    obtain ⟨u, rfl, ru⟩ := ROs1 rs
    split at h
    · rename_i ds d q1 q2
      split at h
      · rename_i j hj
        split at h
        · rename_i hs
          simp only [Bool.and_eq_true] at hs
          have dx := dp_of ok r q1
          obtain ⟨g1, g2, g3⟩ := List.findIdx?_eq_some_iff_getElem.mp hj
          obtain ⟨a, rfl⟩ : ∃ a, v = .ref a := by cases dx; exact ⟨_, rfl⟩
          refine ⟨a, u, d, ds, j, ds[j], rfl, rfl, dx, dp_of ok ru q2, hs.1, hs.2, List.getElem?_eq_getElem g1, g2, fun m z hm hz => ?_, Post.fin (t := .int j) h rfl ev ok (.cl (.int _))⟩
          obtain ⟨z1, z2⟩ := List.getElem?_eq_some_iff.mp hz
          have := g3 m hm
          rw [z2] at this
          simpa using this
        · exact h.elim
      · exact h.elim
    · exact h.elim
  · exact h.elim
/-- truths in a list of truths, counted -/
def rCntB (K : PySem.W.Frag) : V → List V → Hp → VK → Prop := fun x xs H Q => ∃ (p : Addr) (bs : List Bool) (b : Bool), x = .ref p ∧ xs = [.bl b] ∧ SqL K H p (bs.map V.bl) ∧ Q (.int (bs.count b : Nat)) H
theorem dpAll_bl {K : PySem.W.Frag} {H : Hp} : ∀ bs : List Bool, DpAll K H (bs.map V.bl) (bs.map PyData.bool)
  | [] => .nil
  | b :: bs => .cons (.bl b) (dpAll_bl bs)
theorem plain_bl : ∀ bs : List Bool, PyData.plainAll (bs.map PyData.bool) = true
  | [] => rfl
  | b :: bs => by
    simp only [List.map_cons, PyData.plainAll, plain_bl bs, Bool.and_true]
    rfl
theorem count_bl (b : Bool) : ∀ bs : List Bool, ((bs.map PyData.bool).countP fun y => PyData.eqv y (.bool b)) = bs.count b
  | [] => rfl
  | c :: bs => by
    have e : PyData.eqv (.bool c) (.bool b) = (c == b) := by cases c <;> cases b <;> rfl
    simp only [List.map_cons, List.countP_cons, List.count_cons, count_bl b bs, e]
theorem mt_lcountB {X : Cx} (hu : X.A.units + 65 < cLine) : MtR X "list.count" (rCntB X.K) := by
  intro pins s σ H x xs v us Q I rx rxs h
  obtain ⟨p, bs, b, rfl, rfl, hs, q⟩ := h
  cases rx
  obtain ⟨u, rfl, ru⟩ := rxs.one
  cases (show u = Value.bool b from ru)
  obtain ⟨its, rv, ⟨o, n, ho, hc, _, hd⟩, hlen⟩ := I.list hs
  obtain ⟨as, rd⟩ := Dp.readsAll I (bs.map PyData.bool) _ its (dpAll_bl bs) rv
  have dep : (PyData.bool b).depth ≤ 1 := by simp [PyData.depth]
  refine SeqAt.count_list_data (vs := its.toArray) ⟨o, ho, hc, n, hd⟩ rd (Reads.bool b) (plain_bl bs) rfl (by omega) ?_
  rw [count_bl]
  exact ⟨.int (bs.count b : Nat), H, I.tok _, ⟨_, rfl⟩, q⟩
def rCntX (K : PySem.W.Frag) : V → List V → Hp → VK → Prop := fun x xs H Q => rCntI K x xs H Q ∨ rCntB K x xs H Q
theorem mt_lcountX {X : Cx} (hu : X.A.units + 65 < cLine) : MtR X "list.count" (rCntX X.K) := by
  intro pins s σ H x xs v us Q I rx rxs h
  rcases h with h | h
  · exact mt_lcount pins s σ H x xs v us Q I rx rxs h
  · exact mt_lcountB hu pins s σ H x xs v us Q I rx rxs h
theorem cnt_ok {W : WX} {w w2 : Wd} {σ : L2.St} {x : T} {xs : List T} {v : V} {vs : List V} {F F2 : List Addr} {Q : VK} (h : Post G W w σ (bmR .count x xs w2.st) Q) (ev : Ev w w2) (ok : w2.Ok G) (r : w2.RO G v x F) (rs : w2.ROs G vs xs F2) (o : Own w w2 F2) :
    rCntX G.K v vs w2.H Q := by
  have h : Post G W w σ (cntT x xs w2.st) Q := h
  unfold cntT at h
  split at h
  · rename_i _ k _
    obtain ⟨u, rfl, ru⟩ := ROs1 rs
    obtain ⟨rfl, _⟩ := RO_int ru
    cases q : lstOf w2.st x with
    | none => rw [q] at h; exact h.elim
    | some ys =>
      rw [q, Option.bind_some] at h
      cases q2 : intsOf ys with
      | none => rw [q2] at h; exact h.elim
      | some ns =>
        rw [q2] at h
        obtain ⟨a, us, F', rfl, ha, cs, sb⟩ := lst_of ok r q
        rw [ints_of cs q2] at ha
        exact .inl ⟨a, ns, k, rfl, rfl, SqL.of ha, Post.fin (t := .int (ns.count k)) h rfl ev ok (.cl (.int _))⟩
  · rename_i _ b _
    obtain ⟨u, rfl, ru⟩ := ROs1 rs
    obtain ⟨rfl, _⟩ := RO_bl ru
    cases q : lstOf w2.st x with
    | none => rw [q] at h; exact h.elim
    | some ys =>
      rw [q, Option.bind_some] at h
      cases q2 : boolsOf ys with
      | none => rw [q2] at h; exact h.elim
      | some bs =>
        rw [q2] at h
        obtain ⟨a, us, F', rfl, ha, cs, sb⟩ := lst_of ok r q
        rw [bools_of cs q2] at ha
        exact .inr ⟨a, bs, b, rfl, rfl, SqL.of ha, Post.fin (t := .int (bs.count b : Nat)) h rfl ev ok (.cl (.int _))⟩
  · exact h.elim
theorem meth_few {es : List Expr} {X : Cx} {cpos : Pos} (hes : es.all plainB = true) (hl : es.length < 20) : ((backTo cpos (starEach es X.env)).all (fun x => !x.1) && (backToKw cpos (keywordEach [] X.env)).all (fun x => x.1.isSome)
      && decide (es.length + ([] : List Keyword).length + (if ([] : List Keyword).isEmpty then 0 else 1) < 30)) = true := by
  rw [stars_form hes]
  show (true && true && decide (es.length + 0 + 0 < 30)) = true
  rw [decide_eq_true (by omega)]
  rfl
theorem bm_core {W : WX} {m : Bm} {o : E} {es : Es} {r : V → List V → Hp → VK → Prop} {X : Cx} (hr : ∀ {w w2 : Wd} {σ : L2.St} {x : T} {xs : List T} {v : V} {vs : List V} {F F2 : List Addr} {Q : VK}, Post G W w σ (bmR m x xs w2.st) Q → Ev w w2 → w2.Ok G → w2.RO G v x F → w2.ROs G vs xs F2 → Own w w2 F2 → r v vs w2.H Q)
    {w : Wd} {σ : L2.St} {sl : Slots} {Q : VK} (ok : w.Ok G) (hs : SlotR G w σ sl) (hm : bmOk m = true) (h : Post G W w σ (evE P (callN P n) (.bm m o es) sl w.st) Q) :
    tBM X.K "list" r (tEv G W (evE P (callN P n) o)) (tLv G W (evEs P (callN P n) es)) σ w.H Q := by
  simp only [evE, hm, if_true] at h
  refine Post.bind Ev.refl h ok hs fun x st1 v w1 F1 h e1 ev1 ok1 r1 o1 => ?_
  subst e1
  split at h
  · rename_i hl
    refine ⟨isLst_ty ok1 r1 hl, ?_⟩
    refine Post.bindL ev1 h ok1 (hs.mono ev1 ok) fun xs st2 vs w2 F2 h e2 ev2 ok2 r2 o2 => ?_
    subst e2
    exact hr h (ev1.trans ev2) ok2 (ev2.ro ok1 o1 r1) r2 (o2.back ev1)
  · exact h.elim
/-- which methods, with how many things -/
def bmB (m : Bm) (k : Nat) : Bool := match m with
  | .append => k == 1
  | .extend => k == 1
  | .clear => k == 0
  | _ => false
end PC
namespace PC
open PySem PySem.Spec PyProof.Rows L2
variable {G : Glb} {P : Prog} {tb : Tab} {n : Nat}
/-! ### built-in functions, methods of lists, isinstance -/
theorem boot_bi {b : Bi} {f : Value} {y : String} (h : b.fn = some (f, y)) : bootBuiltins (Str.ofString y) = some f := by
  cases b <;> simp only [Bi.fn, Option.some.injEq, Prod.mk.injEq, reduceCtorEq] at h <;> obtain ⟨rfl, rfl⟩ := h <;> rfl
theorem bi_kind {b : Bi} {f : Value} {y : String} (h : b.fn = some (f, y)) : (∃ id, f = .builtin id) ∨ ∃ id, f = .type id := by
  cases b <;> simp only [Bi.fn, Option.some.injEq, Prod.mk.injEq, reduceCtorEq] at h <;> obtain ⟨rfl, rfl⟩ := h <;> first | exact .inl ⟨_, rfl⟩ | exact .inr ⟨_, rfl⟩
theorem c_bi {b : Bi} {es : Es} (ie : SEs G P tb n es) : SE G P tb n (.bi b es) := by
  intro X sc W p c h
  obtain ⟨f, y, px, e, ps, pos, hb, rfl, hx, h1⟩ := inv_bi h
  obtain ⟨ga, gb, gc, gd⟩ := c.blt hx
  obtain ⟨r, hr, hok⟩ := biop_ok (G := G) (W := W) c.K c.wd c.calm c.room.gu (by have := c.room.un; omega) b hb
  obtain ⟨pa, pl⟩ := ie X sc W _ c h1
  rw [List.all_cons, Bool.and_eq_true] at pl
  have core : ∀ (σ : L2.St) (H : Hp) (Q : VK), tEv G W (evE P (callN P n) (.bi b es)) σ H Q → tCB r (tLv G W (evEs P (callN P n) es)) σ H Q := fun σ H Q ⟨w, sl, e, ok, hs, h⟩ => by
    subst e
    refine Post.bindL Ev.refl h ok hs fun xs st1 vs w1 F1 h e1 ev1 ok1 r1 o1 => ?_
    subst e1
    exact hok w w1 σ xs vs F1 Q h ev1 ok1 r1 o1
  have hv := boot_bi hb
  rcases bi_kind hb with ⟨id, rfl⟩ | ⟨id, rfl⟩
  · exact PE.imp (pe_callB hr ga gd hv pa gc gb (star_plain pl.1 _ _) (stars_any pl.2 _ _)) core
  · exact PE.imp (pe_callTy hr ga gd hv pa gc gb (star_plain pl.1 _ _) (stars_any pl.2 _ _)) core
/-- a wish that is never met -/
theorem pe_no {X : Cx} {p : Expr} {t : TE} (h : ∀ σ H Q, t σ H Q → False) : PE X p t := ⟨fun _ _ σ H Q _ q => (h σ H Q q).elim⟩
theorem c_bm_g {o : E} {es : Es} (io : SE G P tb n o) (ie : SEs G P tb n es) {m : Bm} {nm : Str} {id : String} {r : V → List V → Hp → VK → Prop} (slot : Slot "list" nm id) (hn : bmNm m = nm) (hty : typeOf (.builtin id) = pure (.type "method_descriptor")) (hm0 : ∀ X : Cx, X.K = G.K → X.A.units + 65 < cLine → MtM X id r) (hb : bmOk m = true)
    (hr : ∀ {W : WX} {w w2 : Wd} {σ : L2.St} {x : T} {xs : List T} {v : V} {vs : List V} {F F2 : List Addr} {Q : VK}, Post G W w σ (bmR m x xs w2.st) Q → Ev w w2 → w2.Ok G → w2.RO G v x F → w2.ROs G vs xs F2 → Own w w2 F2 → r v vs w2.H Q) :
    SE G P tb n (.bm m o es) := by
  intro X sc W p c h
  obtain ⟨eo, apos, ps, pos, rfl, h1, h2, h3, h4, h5⟩ := inv_bm h
  subst hn
  have hm : X.K = G.K → MtM X id r := fun e => hm0 X e (by have := c.room.un; omega)
  obtain ⟨pa, pl⟩ := ie X sc W _ c h3
  cases ps with
  | nil =>
    have hes : es = .nil := by cases es with | nil => rfl | cons _ _ => exact no h3 rfl
    subst hes
    refine PE.imp (pe_bm0 PySem.F.plainAttrs_list slot hty (hm c.K) (io X sc W eo c h1) (base_plain h2 _ _ _) h4) fun σ H Q ⟨w, sl, e, ok, hs, h⟩ => ?_
    subst e
    simp only [evE, hb, if_true] at h
    refine Post.bind Ev.refl h ok hs fun x st1 v w1 F1 h e1 ev1 ok1 r1 o1 => ?_
    subst e1
    split at h
    · rename_i hl
      exact ⟨isLst_ty ok1 r1 hl, hr h ev1 ok1 r1 .nil Own.nil⟩
    · exact h.elim
  | cons e ps =>
    have pl2 := pl
    rw [List.all_cons, Bool.and_eq_true] at pl2
    exact PE.imp (pe_bm PySem.F.plainAttrs_list slot hty (hm c.K) (io X sc W eo c h1) pa (base_plain h2 _ _ _) (meth_few pl h5) h4 (star_plain pl2.1 _ _) (stars_any pl2.2 _ _)) fun σ H Q ⟨w, sl, e, ok, hs, h⟩ => by
      subst e
      exact bm_core hr ok hs hb h
theorem isStr_inv {x : T} (h : isStrT x = true) : ∃ z, x = .str z := by
  cases x <;> first | exact ⟨_, rfl⟩ | cases h
theorem c_bs {o : E} {es : Es} (io : SE G P tb n o) (ie : SEs G P tb n es) {m : Bm} {nm : Str} {id : String} {r : V → List V → Hp → VK → Prop} (slot : Slot "str" nm id) (hn : bmNm m = nm) (hty : typeOf (.builtin id) = pure (.type "method_descriptor")) (hm : ∀ X : Cx, X.K = G.K → MtR X id r) (hb : bmOk m = false) (hb2 : bsOk m = true)
    (hr : ∀ {W : WX} {w w2 : Wd} {σ : L2.St} {z : Str} {x : T} {v : V} {F : List Addr} {Q : VK}, Post G W w σ (bsR m (.str z) [x] w2.st) Q → Ev w w2 → w2.Ok G → w2.RO G v x F → Own w w2 F → r (.str z) [v] w2.H Q) :
    SE G P tb n (.bm m o es) := by
  intro X sc W p c h
  obtain ⟨eo, apos, ps, pos, rfl, h1, h2, h3, h4, h5⟩ := inv_bm h
  subst hn
  obtain ⟨pa, pl⟩ := ie X sc W _ c h3
  have one : ∀ {w w2 : Wd} {σ : L2.St} {x : T} {xs : List T} {Q : VK}, Post G W w σ (bsR m x xs w2.st) Q → ∃ y, xs = [y] := fun {w w2 σ x xs Q} hp => by
    unfold bsR at hp
    split at hp
    · unfold splitS at hp
      split at hp
      · exact ⟨_, rfl⟩
      · exact hp.elim
    · unfold joinS at hp
      split at hp
      · exact ⟨_, rfl⟩
      · exact hp.elim
    · exact hp.elim
  cases ps with
  | nil =>
    have hes : es = .nil := by cases es with | nil => rfl | cons _ _ => exact no h3 rfl
    subst hes
    refine PE.imp (pe_bm0 PySem.F.plainAttrs_str slot hty (hm X c.K) (io X sc W eo c h1) (base_plain h2 _ _ _) h4) fun σ H Q ⟨w, sl, e, ok, hs, h⟩ => ?_
    subst e
    simp only [evE, hb, hb2, if_true, if_false, Bool.false_eq_true] at h
    refine Post.bind Ev.refl h ok hs fun x st1 v w1 F1 h e1 ev1 ok1 r1 o1 => ?_
    subst e1
    split at h
    · obtain ⟨y, hy⟩ := one (w2 := w1) h
      cases hy
    · exact h.elim
  | cons e ps =>
    have pl2 := pl
    rw [List.all_cons, Bool.and_eq_true] at pl2
    refine PE.imp (pe_bm PySem.F.plainAttrs_str slot hty (hm X c.K) (io X sc W eo c h1) pa (base_plain h2 _ _ _) (meth_few pl h5) h4 (star_plain pl2.1 _ _) (stars_any pl2.2 _ _)) fun σ H Q ⟨w, sl, e, ok, hs, h⟩ => ?_
    subst e
    simp only [evE, hb, hb2, if_true, if_false, Bool.false_eq_true] at h
    refine Post.bind Ev.refl h ok hs fun x st1 v w1 F1 h e1 ev1 ok1 r1 o1 => ?_
    subst e1
    split at h
    · rename_i hx
      obtain ⟨z, rfl⟩ := isStr_inv hx
      obtain ⟨rfl, rfl⟩ := RO_str r1
      refine ⟨rfl, ?_⟩
      refine Post.bindL ev1 h ok1 (hs.mono ev1 ok) fun xs st2 vs w2 F2 h e2 ev2 ok2 r2 o2 => ?_
      subst e2
      obtain ⟨y, rfl⟩ := one (w2 := w2) h
      obtain ⟨u, rfl, ru⟩ := ROs1 r2
      exact hr h (ev1.trans ev2) ok2 ru (o2.back ev1)
    · exact h.elim
theorem strs_of {w : Wd} : ∀ {xs : List T} {vs : List V} {F : List Addr} {bs : List Str}, w.ROs G vs xs F → strsOf xs = some bs → vs = bs.map V.str
  | [], _, _, _, .nil, h => by
    simp only [strsOf, Option.some.injEq] at h
    subst h
    rfl
  | .str b :: xs, _, _, bs, .cons h1 c, h => by
    simp only [strsOf, Option.map_eq_some_iff] at h
    obtain ⟨bs', e, rfl⟩ := h
    obtain ⟨rfl, _⟩ := RO_str h1
    rw [strs_of c e]
    rfl
  | .non :: _, _, _, _, _, h => by simp only [strsOf] at h; cases h
  | .int _ :: _, _, _, _, _, h => by simp only [strsOf] at h; cases h
  | .bl _ :: _, _, _, _, _, h => by simp only [strsOf] at h; cases h
  | .exc _ :: _, _, _, _, _, h => by simp only [strsOf] at h; cases h
  | .ref _ :: _, _, _, _, _, h => by simp only [strsOf] at h; cases h
  | .nd _ _ _ :: _, _, _, _, _, h => by simp only [strsOf] at h; cases h
def rJoinA (K : PySem.W.Frag) : V → List V → Hp → VK → Prop := fun x xs H Q => ∃ a p, ∃ ys : List Str, x = .str a ∧ xs = [.ref p] ∧ (SqL K H p (ys.map V.str) ∨ SqT K H p (ys.map V.str)) ∧ (ys.map (·.length)).sum + ys.length * a.length ≤ 16777216 ∧ Q (.str (Txt.join a ys)) H
def rSplitA : V → List V → Hp → VK → Prop := fun x xs H Q => ∃ a b, x = .str a ∧ xs = [.str b] ∧ (b.length == 0) = false ∧ a.length + 2 ≤ sizeLine ∧ rNewStrs (Txt.split a b) H Q
theorem join_ok {W : WX} {w w2 : Wd} {σ : L2.St} {z : Str} {x : T} {v : V} {F : List Addr} {Q : VK} (h : Post G W w σ (bsR .join (.str z) [x] w2.st) Q) (ev : Ev w w2) (ok : w2.Ok G) (r : w2.RO G v x F) (o : Own w w2 F) :
    rJoinA G.K (.str z) [v] w2.H Q := by
  simp only [bsR, joinS] at h
  split at h
  · rename_i ys q
    split at h
    · rename_i hl
      cases q1 : lsqOf w2.st x with
      | none => rw [q1] at q; cases q
      | some xs =>
        rw [q1, Option.bind_some] at q
        obtain ⟨a, vs, F', rfl, ha, cs, sb⟩ := lsq_of ok r q1
        rw [strs_of cs q] at ha
        exact ⟨z, a, ys, rfl, rfl, ha.elim (fun ha => .inl (SqL.of ha)) fun ha => .inr (SqT.of ha), hl, Post.fin (t := .str (Txt.join z ys)) h rfl ev ok (.cl (.str _))⟩
    · exact h.elim
  · exact h.elim
theorem rcs_strs {w : Wd} : ∀ ys : List Str, w.RCs G (ys.map V.str) (ys.map T.str)
  | [] => .nil
  | y :: ys => .cons (.str y) (rcs_strs ys)
theorem split_ok {W : WX} {w w2 : Wd} {σ : L2.St} {z : Str} {x : T} {v : V} {F : List Addr} {Q : VK} (h : Post G W w σ (bsR .split (.str z) [x] w2.st) Q) (ev : Ev w w2) (ok : w2.Ok G) (r : w2.RO G v x F) (o : Own w w2 F) :
    rSplitA (.str z) [v] w2.H Q := by
  cases x <;> try exact h.elim
  rename_i b
  simp only [bsR, splitS] at h
  split at h
  · rename_i hl
    simp only [Bool.and_eq_true, Bool.not_eq_true', decide_eq_true_eq] at hl
    obtain ⟨rfl, _⟩ := RO_str r
    refine ⟨z, b, rfl, rfl, hl.1, hl.2, fun p hp => ?_⟩
    exact h.newOwn rfl ev ok hp (g := .lst) upd_same (rcs_strs _)
  · exact h.elim
/-! methods of dicts -/
theorem dicB_is {w : Wd} (ok : w.Ok G) {v : V} {t : T} {F : List Addr} (r : w.RO G v t F) (h : dicB w.st t = true) : isD G.w w.H v := by
  unfold dicB at h
  split at h
  · rename_i ks o xs q
    obtain ⟨a, vs, F', rfl, ha, _, _⟩ := (node_of ok r q).read
    exact ⟨a, _, vs, rfl, ha⟩
  · cases h
theorem ask_keys {ks : List NestedKey} {xs : List T} {t : T} {k : NestedKey} {q : Option T} (a : askD ks xs t = some (k, q)) : ∃ b, keyT t = some (b, k) ∧ keysT b xs = some ks ∧ q = getD k ks xs := by
  unfold askD at a
  split at a
  · rename_i b k' e1
    split at a
    · rename_i e2
      cases a
      exact ⟨b, e1, e2, rfl⟩
    · cases a
  · cases a
theorem bdPop_ok {W : WX} {w w2 : Wd} {σ : L2.St} {x : T} {xs : List T} {v : V} {vs : List V} {F F2 : List Addr} {Q : VK} (h : Post G W w σ (bdR .popd x xs w2.st) Q) (ev : Ev w w2) (ok : w2.Ok G) (r : w2.RO G v x F) (rs : w2.ROs G vs xs F2) (o : Own w w2 (F ++ F2)) : rPopN G.w v vs w2.H Q := by
  unfold bdR at h
  split at h <;> first | exact h.elim | skip
  all_goals rename_i hm
  all_goals first | (cases hm; done) | skip
  · rename_i k y
    obtain ⟨a, rfl, hk, rfl⟩ := RO_ref r
    obtain ⟨u, rfl, ru⟩ := ROs1 rs
    split at h
    · rename_i ks ys q2
      split at h
      · rename_i j t q3
        obtain ⟨b, e1, e2, q4⟩ := ask_keys q3
        obtain ⟨ns, vs', ha, cs'⟩ := ok.cells k a _ hk q2
        have ha' : DctAt G.w w2.H a ks vs' := ha
        obtain ⟨z, z1, z2⟩ := getD_c cs' q4.symm
        have kr' : KRels w2.H b ks vs' := krels_o (r := w2.r) cs'.toO e2
        have ky : KRel w2.H b u j := krel_c (key_closed ru e1) e1
        have hs3 : (a == sysModules) = false := let ⟨_, _, z, _⟩ := ha'; z
        refine ⟨a, ks, vs', b, j, u, z, rfl, rfl, ha', kr', ky, z1, fun ob dO => ?_⟩
        have g := ok.wr (o := objO a ob) (t' := .nd (.dic (dropN j ks)) .own (dropD j ks ys)) hk q2 (.inl rfl) ⟨ns, dropD j ks vs', ⟨ob, upd_same, hs3, dO⟩, dropD_c (wr_rcs ok ns cs')⟩
        exact Post.fin (w1 := w2.wr k a (objO a ob) (.nd (.dic (dropN j ks)) .own (dropD j ks ys))) h rfl (ev.trans g.2) g.1 (.cl (wr_rc ok ns z2))
      · exact h.elim
    · exact h.elim
theorem bdClear_ok {W : WX} {w w2 : Wd} {σ : L2.St} {x : T} {xs : List T} {v : V} {vs : List V} {F F2 : List Addr} {Q : VK} (h : Post G W w σ (bdR .cleard x xs w2.st) Q) (ev : Ev w w2) (ok : w2.Ok G) (r : w2.RO G v x F) (rs : w2.ROs G vs xs F2) (o : Own w w2 (F ++ F2)) : rClearN G.w v vs w2.H Q := by
  unfold bdR at h
  split at h <;> first | exact h.elim | skip
  all_goals rename_i hm
  all_goals first | (cases hm; done) | skip
  · rename_i k
    obtain ⟨a, rfl, hk, rfl⟩ := RO_ref r
    cases rs
    split at h
    · rename_i ks ys q2
      obtain ⟨ns, vs', ha, cs'⟩ := ok.cells k a _ hk q2
      have ha' : DctAt G.w w2.H a ks vs' := ha
      have hs3 : (a == sysModules) = false := let ⟨_, _, z, _⟩ := ha'; z
      refine ⟨a, ks, vs', rfl, rfl, ha', fun ob dO => ?_⟩
      have g := ok.wr (o := objO a ob) (t' := .nd (.dic []) .own []) hk q2 (.inl rfl) ⟨ns, [], ⟨ob, upd_same, hs3, dO⟩, .nil⟩
      exact Post.fin (w1 := w2.wr k a (objO a ob) (.nd (.dic []) .own [])) h rfl (ev.trans g.2) g.1 (.cl .non)
    · exact h.elim
theorem bdGet_ok {W : WX} {w w2 : Wd} {σ : L2.St} {x : T} {xs : List T} {v : V} {vs : List V} {F F2 : List Addr} {Q : VK} (h : Post G W w σ (bdR .getd x xs w2.st) Q) (ev : Ev w w2) (ok : w2.Ok G) (r : w2.RO G v x F) (rs : w2.ROs G vs xs F2) (o : Own w w2 (F ++ F2)) : rGetN G.w v vs w2.H Q := by
  unfold bdR at h
  split at h <;> first | exact h.elim | skip
  all_goals rename_i hm
  all_goals first | (cases hm; done) | skip
  · rename_i y
    obtain ⟨u, rfl, ru⟩ := ROs1 rs
    split at h
    · rename_i ks ow ys q2
      split at h
      · rename_i j t q3
        obtain ⟨p, us, b, F3, rfl, d, kr, ky, q4, cs, sb⟩ := ask_of ok ru r q2 q3
        obtain ⟨z, F4, z1, z2, z3⟩ := getD_o cs q4.symm
        refine ⟨p, ks, us, b, j, u, rfl, rfl, d, kr, ky, ?_⟩
        rw [z1]
        exact h z w2 F4 rfl ev ok z2 (o.sub ((z3.trans sb).trans (List.sublist_append_left _ _)))
      · rename_i j q3
        obtain ⟨p, us, b, F3, rfl, d, kr, ky, q4, cs, sb⟩ := ask_of ok ru r q2 q3
        refine ⟨p, ks, us, b, j, u, rfl, rfl, d, kr, ky, ?_⟩
        have z := getD_some (k := j) (ks := ks) cs
        rw [← q4] at z
        cases e : getD j ks us with
        | none => exact Post.fin (t := .non) h rfl ev ok (.cl .non)
        | some _ => rw [e] at z; cases z
      · exact h.elim
    · exact h.elim
theorem c_bd_g {o : E} {es : Es} (io : SE G P tb n o) (ie : SEs G P tb n es) {m : Bm} {nm : Str} {id : String} {r : V → List V → Hp → VK → Prop} (slot : Slot "dict" nm id) (hn : bmNm m = nm) (hty : typeOf (.builtin id) = pure (.type "method_descriptor")) (hm : ∀ X : Cx, X.w = G.w → X.A.units + 10 < cLine → MtR X id r) (hb : bdOk m = true) (hb1 : bmOk m = false) (hb2 : bsOk m = false)
    (hr : ∀ {W : WX} {w w2 : Wd} {σ : L2.St} {x : T} {xs : List T} {v : V} {vs : List V} {F F2 : List Addr} {Q : VK}, Post G W w σ (bdR m x xs w2.st) Q → Ev w w2 → w2.Ok G → w2.RO G v x F → w2.ROs G vs xs F2 → Own w w2 (F ++ F2) → r v vs w2.H Q) :
    SE G P tb n (.bm m o es) := by
  intro X sc W p c h
  obtain ⟨eo, apos, ps, pos, rfl, h1, h2, h3, h4, h5⟩ := inv_bm h
  subst hn
  have hu : X.A.units + 10 < cLine := by have := c.room.un; omega
  obtain ⟨pa, pl⟩ := ie X sc W _ c h3
  cases ps with
  | nil =>
    have hes : es = .nil := by cases es with | nil => rfl | cons _ _ => exact no h3 rfl
    subst hes
    refine PE.imp (pe_dm0 slot hty (hm X c.wd hu) (io X sc W eo c h1) (base_plain h2 _ _ _) h4) fun σ H Q ⟨w, sl, e, ok, hs, h⟩ => ?_
    subst e
    simp only [evE, hb, hb1, hb2, if_true, if_false, Bool.false_eq_true] at h
    refine Post.bind Ev.refl h ok hs fun x st1 v w1 F1 h e1 ev1 ok1 r1 o1 => ?_
    subst e1
    split at h
    · rename_i hl
      rw [c.wd]
      exact ⟨dicB_is ok1 r1 hl, hr h ev1 ok1 r1 .nil (by simpa using o1)⟩
    · exact h.elim
  | cons e ps =>
    have pl2 := pl
    rw [List.all_cons, Bool.and_eq_true] at pl2
    refine PE.imp (pe_dm slot hty (hm X c.wd hu) (io X sc W eo c h1) pa (base_plain h2 _ _ _) (meth_few pl h5) h4 (star_plain pl2.1 _ _) (stars_any pl2.2 _ _)) fun σ H Q ⟨w, sl, e, ok, hs, h⟩ => ?_
    subst e
    simp only [evE, hb, hb1, hb2, if_true, if_false, Bool.false_eq_true] at h
    refine Post.bind Ev.refl h ok hs fun x st1 v w1 F1 h e1 ev1 ok1 r1 o1 => ?_
    subst e1
    split at h
    · rename_i hl
      rw [c.wd]
      refine ⟨dicB_is ok1 r1 hl, ?_⟩
      refine Post.bindL ev1 h ok1 (hs.mono ev1 ok) fun xs st2 vs w2 F2 h e2 ev2 ok2 r2 o2 => ?_
      subst e2
      exact hr h (ev1.trans ev2) ok2 (ev2.ro ok1 o1 r1) r2 ((o1.mono ev2 (RepO.trk r1)).both o2 ev1 (RepO.trk r1))
    · exact h.elim
theorem c_bm {m : Bm} {o : E} {es : Es} (io : SE G P tb n o) (ie : SEs G P tb n es) : SE G P tb n (.bm m o es) := by
  cases m
  case remove => exact c_bm_g io ie PySem.F.slot_list_remove rfl PySem.F.type_list_remove (fun X e hu => by rw [← e]; exact mt_removeD hu) rfl bm_remove
  case index => exact c_bm_g io ie PySem.F.slot_list_index rfl PySem.F.type_list_index (fun X e hu => by rw [← e]; exact mt_indexD hu) rfl ix_of_ok
  case popd => exact c_bd_g io ie PySem.F.slot_dict_pop rfl PySem.F.type_dict_pop (fun X e hu => by rw [← e]; exact mt_popN hu) rfl rfl rfl bdPop_ok
  case cleard => exact c_bd_g io ie PySem.F.slot_dict_clear rfl PySem.F.type_dict_clear (fun X e hu => by rw [← e]; exact mt_clearN) rfl rfl rfl bdClear_ok
  case getd => exact c_bd_g io ie PySem.F.slot_dict_get rfl PySem.F.type_dict_get (fun X e hu => by rw [← e]; exact mt_getN hu) rfl rfl rfl bdGet_ok
  case append => exact c_bm_g io ie PySem.F.slot_list_append rfl PySem.F.type_list_append (fun X _ _ => mt_append) rfl bm_append
  case extend => exact c_bm_g io ie PySem.F.slot_list_extend rfl PySem.F.type_list_extend (fun X e _ => by rw [← e]; exact mt_extendX) rfl bm_extend
  case clear => exact c_bm_g io ie PySem.F.slot_list_clear rfl PySem.F.type_list_clear (fun X _ _ => mt_clear) rfl bm_clear
  case count => exact c_bm_g io ie PySem.F.slot_list_count rfl PySem.F.type_list_count (fun X e hu => by rw [← e]; exact mt_lcountX hu) rfl cnt_ok
  case pop0 => exact c_bm_g io ie PySem.F.slot_list_pop rfl PySem.F.type_list_pop (fun X _ _ => mt_pop) rfl bm_pop0
  case pop1 => exact c_bm_g io ie PySem.F.slot_list_pop rfl PySem.F.type_list_pop (fun X _ _ => mt_popAt) rfl bm_pop1
  case insert => exact c_bm_g io ie PySem.F.slot_list_insert rfl PySem.F.type_list_insert (fun X _ _ => mt_insert) rfl bm_insert
  case join => exact c_bs (r := rJoinA G.K) io ie PySem.F.slot_str_join rfl PySem.F.type_str_join (fun X e => by rw [← e]; exact mt_join) rfl rfl join_ok
  case split => exact c_bs (r := rSplitA) io ie PySem.F.slot_str_split rfl PySem.F.type_str_split (fun X _ => mt_split) rfl rfl split_ok
  all_goals
    intro X sc W p c h
    exact pe_no fun σ H Q ⟨w, sl, e, ok, hs, h⟩ => h
/-! ### isinstance -/
def tyV0 (c : Ty) : V := match c.bt with
  | some b => .ty b.nm
  | none => .non
def tyU (c : Ty) : Value := match c.bt with
  | some b => .type b.nm
  | none => .none
section
variable {X : Cx} {sc : Scope} {W : WX}
theorem mTy_inv {c : Ty} {p : Expr} (h : mTy tb sc c p = true) : ∃ x pos, p = .Name x pos ∧ tyNm c = some x ∧ bltB tb sc x = true := by
  cases p <;> try exact no h rfl
  rename_i x pos
  have h : (match (generalizing := false) tyNm c with
    | some y => decide (x = y) && bltB tb sc x
    | none => false) = true := h
  split at h
  · rename_i y q
    simp only [Bool.and_eq_true, decide_eq_true_eq] at h
    obtain ⟨rfl, h1⟩ := h
    exact ⟨x, pos, rfl, q, h1⟩
  · cases h
theorem ty_boot {c : Ty} {x : Str} (h : tyNm c = some x) : bootBuiltins x = some (tyU c) := by
  cases c <;> simp only [tyNm, Option.some.injEq, reduceCtorEq] at h <;> subst h <;> rfl
theorem ty_rel {c : Ty} {x : Str} (h : tyNm c = some x) : RelV (tyV0 c) (tyU c) ∧ ClsV (tyV0 c) (tyU c) ∧ ∃ b, c.bt = some b ∧ tyU c = .type b.nm := by
  cases c <;> simp only [tyNm, Option.some.injEq, reduceCtorEq] at h <;> exact ⟨rfl, .ty _, _, rfl, rfl⟩
theorem ty_pe {c : Ty} {p : Expr} (ctx : Ctx G P tb n X sc W) (h : mTy tb sc c p = true) : PE X p (tC (tyV0 c)) ∧ plainB p = true := by
  obtain ⟨x, pos, rfl, h1, h2⟩ := mTy_inv h
  obtain ⟨ga, gb, gc, gd⟩ := ctx.blt h2
  exact ⟨pe_bltn ga gd (ty_boot h1) (ty_rel h1).1 gc gb, rfl⟩
theorem tys_pa (ctx : Ctx G P tb n X sc W) : ∀ {cs : List Ty} {es : List Expr}, mTys tb sc cs es = true → PA X es (fun _ H Q => Q (cs.map tyV0) H) ∧ es.all plainB = true ∧ Paired ClsV (cs.map tyV0) (cs.map tyU) ∧ ∀ c ∈ cs, ∃ x, tyNm c = some x
  | [], [], _ => ⟨pa_nil, rfl, .nil, by simp⟩
  | [], _ :: _, h => no h rfl
  | _ :: _, [], h => no h rfl
  | c :: cs, e :: es, h => by
    have h : (mTy tb sc c e && mTys tb sc cs es) = true := h
    rw [Bool.and_eq_true] at h
    obtain ⟨a1, a2⟩ := ty_pe ctx h.1
    obtain ⟨b1, b2, b3, b4⟩ := tys_pa ctx h.2
    obtain ⟨x, pos, _, h1, h2⟩ := mTy_inv h.1
    refine ⟨PA.imp (pa_cons a1 b1 (star_plain a2 _ _)) fun σ H Q q => q, by rw [List.all_cons, a2, b2]; rfl, .cons (ty_rel h1).2.1 b3, fun c' hc => ?_⟩
    rcases List.mem_cons.mp hc with e | hc
    · exact ⟨x, e ▸ h1⟩
    · exact b4 c' hc
end
theorem isTy_bt {st : Store} {t : T} {c : Ty} {x : Str} {b : Bool} (h : tyNm c = some x) (e : isTy P st t c = some b) : ∃ k, btOf st t = some k ∧ ∀ K : PySem.W.Frag, PySem.W.kitOne K (.type k.nm) (tyU c) = some b := by
  obtain ⟨_, _, b0, h1, h2⟩ := ty_rel h
  unfold isTy at e
  rw [h1] at e
  simp only [Option.map_eq_some_iff] at e
  obtain ⟨k, e1, rfl⟩ := e
  exact ⟨k, e1, fun K => by rw [h2]; exact kit_bt k b0⟩
theorem isTys_any {st : Store} {t : T} {k : BT} (hk : btOf st t = some k) (K : PySem.W.Frag) : ∀ {cs : List Ty} {b : Bool}, (∀ c ∈ cs, ∃ x, tyNm c = some x) → isTys P st t cs = some b → PySem.W.kitAny K (.type k.nm) (cs.map tyU) = some b
  | [], b, _, e => e
  | c :: cs, b, h, e => by
    obtain ⟨x, hx⟩ := h c (by simp)
    simp only [isTys] at e
    cases q : isTy P st t c with
    | none => rw [q] at e; cases e
    | some b1 =>
      rw [q] at e
      obtain ⟨k', hk', z⟩ := isTy_bt hx q
      rw [hk] at hk'
      cases hk'
      simp only [List.map_cons, PySem.W.kitAny, z K]
      cases b1 with
      | true => exact e
      | false => exact isTys_any hk K (fun c hc => h c (by simp [hc])) e
theorem isTys_bt {st : Store} {t : T} {c : Ty} {cs : List Ty} {x : Str} {b : Bool} (h : tyNm c = some x) (e : isTys P st t (c :: cs) = some b) : ∃ k, btOf st t = some k := by
  simp only [isTys] at e
  cases q : isTy P st t c with
  | none => rw [q] at e; cases e
  | some b1 =>
    obtain ⟨k, hk, _⟩ := isTy_bt h q
    exact ⟨k, hk⟩
theorem own_isTys {w : Wd} {v : V} {x : T} {F : List Addr} {d : Nat} {b : Bool} (r : w.RO G v x F) (h : isTys P w.st x [.own d] = some b) : b = true ∧ ∃ fn o xs, nodeOf w.st x = some (.obj d fn, o, xs) := by
  have h2 : isTy P w.st x (.own d) = some b := by
    simp only [isTys] at h
    cases q : isTy P w.st x (.own d) with
    | none => rw [q] at h; cases h
    | some b1 => rw [q] at h; cases b1 <;> exact h
  have h3 : (match nodeOf w.st x with
      | some (.obj e _, _, _) => if e = d then some true else none
      | _ => none) = some b := by
    cases x with
    | exc k => cases r with | of0 r => cases r with | cl r => cases r
    | _ => exact h2
  split at h3
  · rename_i e fn o xs q
    split at h3
    · rename_i e2
      subst e2
      cases h3
      exact ⟨rfl, fn, o, xs, q⟩
    · cases h3
  · cases h3
theorem TyD.up {K : PySem.W.Frag} {w : Wd} (ok : w.Ok G) {v : V} {t : T} {F : List Addr} {b : BT} (r : w.RO G v t F) (h : btOf w.st t = some b) {p : Addr} {o : HO} (hp : w.H p = none) : TyD G.K G.w (upd w.H p o) v (.type b.nm) :=
  ty_of (w := w.addO p o) (ok.addO hp) (r.mono (fun _ s => s) (fun a u _ q => upd_old hp a u q) (fun _ _ q => q) fun a _ u q => upd_old hp a u q) h
theorem c_isi {a : E} {cs : List Ty} (ia : SE G P tb n a) : SE G P tb n (.isi a cs) := by
  intro X sc W p c h
  obtain ⟨px, ea, ec, pos, rfl, h1, h2, h3, h4⟩ := inv_isi h
  obtain ⟨ga, gb, gc, gd⟩ := c.blt h1
  rcases h4 with ⟨es, k, q, rfl, h5, h6, h7⟩ | h5 | h5
  · obtain ⟨b1, b2, b3, b4⟩ := tys_pa c h5
    have hs2 := star_plain (e := .Tuple es k q) rfl [] X.env
    refine PE.imp (pe_callB call_isiTD ga gd rfl (pa_cons (ia X sc W ea c h2) (pa_cons (pe_tup b1) pa_nil hs2) (star_plain h3 _ _)) gc gb (star_plain h3 _ _) (stars_any (es := [.Tuple es k q]) rfl _ _)) fun σ H Q ⟨w, sl, e, ok, hs, h⟩ => ?_
    subst e
    refine Post.bind Ev.refl h ok hs fun x st1 v w1 F1 hh e1 ev1 ok1 r1 o1 => ?_
    subst e1
    cases q1 : isTys P w1.st x cs with
    | none => rw [q1] at hh; exact hh.elim
    | some b =>
      rw [q1] at hh
      cases cs with
      | nil => exact absurd rfl h6
      | cons c0 cs =>
        obtain ⟨x0, hx0⟩ := b4 c0 (by simp)
        obtain ⟨kk, hk⟩ := isTys_bt hx0 q1
        refine ⟨?_, fun p hp => ⟨v, p, _, _, _, b, rfl, upd_same, b3, ?_, isTys_any hk _ b4 q1, ?_⟩⟩
        · rw [List.length_map]
          have : (100 : Nat) ≤ sizeLine := by decide
          omega
        · rw [c.K, c.wd]
          exact TyD.up (K := G.K) ok1 r1 hk hp
        · exact Post.fin (w1 := w1.addF p (.tup ((c0 :: cs).map tyV0))) hh rfl (ev1.trans (Ev.addF hp)) (ok1.addF hp) (.cl (.bl _))
  · obtain ⟨b1, b2, b3, b4⟩ := tys_pa c h5
    cases cs with
    | nil => exact no h5 rfl
    | cons c0 cs =>
      cases cs with
      | cons _ _ => exact no h5 (by show (_ && false) = false; rw [Bool.and_false])
      | nil =>
        have hs2 := star_plain (e := ec) (by simpa using b2) [] X.env
        refine PE.imp (pe_callB call_isiD ga gd rfl (pa_cons (ia X sc W ea c h2) b1 (star_plain h3 _ _)) gc gb (star_plain h3 _ _) (stars_any b2 _ _)) fun σ H Q ⟨w, sl, e, ok, hs, h⟩ => ?_
        subst e
        refine Post.bind Ev.refl h ok hs fun x st1 v w1 F1 h e1 ev1 ok1 r1 o1 => ?_
        subst e1
        cases q1 : isTys P w1.st x [c0] with
        | none => rw [q1] at h; exact h.elim
        | some b =>
          rw [q1] at h
          obtain ⟨x0, hx0⟩ := b4 c0 (by simp)
          have q2 : isTy P w1.st x c0 = some b := by
            simp only [isTys] at q1
            cases q : isTy P w1.st x c0 with
            | none => rw [q] at q1; cases q1
            | some b1 => rw [q] at q1; cases b1 <;> exact q1
          obtain ⟨kk, hk, z⟩ := isTy_bt hx0 q2
          exact ⟨v, tyV0 c0, _, tyU c0, b, rfl, (ty_rel hx0).2.1, by rw [c.K, c.wd]; exact ty_of ok1 r1 hk, z _, h.fin rfl ev1 ok1 (.cl (.bl _))⟩
  · match cs, h5 with
    | [], h5 => exact no h5 (by cases ec <;> rfl)
    | _ :: _ :: _, h5 => exact no h5 (by cases ec <;> simp [mOwn])
    | [.int], h5 => exact no h5 (by cases ec <;> rfl)
    | [.bool], h5 => exact no h5 (by cases ec <;> rfl)
    | [.str], h5 => exact no h5 (by cases ec <;> rfl)
    | [.list], h5 => exact no h5 (by cases ec <;> rfl)
    | [.tuple], h5 => exact no h5 (by cases ec <;> rfl)
    | [.dict], h5 => exact no h5 (by cases ec <;> rfl)
    | [.valueError], h5 => exact no h5 (by cases ec <;> rfl)
    | [.own d], h5 =>
      obtain ⟨x, px2, rfl⟩ : ∃ x px2, ec = .Name x px2 := by
        cases ec <;> first | exact ⟨_, _, rfl⟩ | exact no h5 rfl
      have h5 : (glB sc x && decide (tb.cls[d]? = some x) && tb.iso.contains d) = true := h5
      simp only [Bool.and_eq_true, decide_eq_true_eq, List.contains_iff_mem] at h5
      obtain ⟨⟨h5a, h5b⟩, h5c⟩ := h5
      obtain ⟨ha, hb, _⟩ := glB_ok h5a c.sc
      have b1 : PE X (.Name x px2) (tC (.ref (G.cls d))) := pe_glob (v := .ref (G.cls d)) ha (by rw [c.mg]; exact c.gl.cls d x h5b) rfl hb
      have hs2 := star_plain (e := .Name x px2) rfl [] X.env
      refine PE.imp (pe_callB call_isiD ga gd rfl (pa_cons (ia X sc W ea c h2) (pa_cons b1 pa_nil hs2) (star_plain h3 _ _)) gc gb (star_plain h3 _ _) (stars_any (es := [.Name x px2]) rfl _ _)) fun σ H Q ⟨w, sl, e, ok, hs, h⟩ => ?_
      subst e
      refine Post.bind Ev.refl h ok hs fun x st1 v w1 F1 h e1 ev1 ok1 r1 o1 => ?_
      subst e1
      cases q1 : isTys P w1.st x [.own d] with
      | none => rw [q1] at h; exact h.elim
      | some b =>
        rw [q1] at h
        obtain ⟨rfl, fn, o, xs, q2⟩ := own_isTys r1 q1
        obtain ⟨a, vs, F', rfl, ⟨⟨hc, hn⟩, hl, dx, ha2⟩, cs2, sb⟩ := (node_of ok1 r1 q2).read
        have I := c.gl.ins d h5c
        refine ⟨.ref a, .ref (G.cls d), .ref (G.cls d), .ref (G.cls d), true, rfl, .own _, ?_, by simp [PySem.W.kitOne], h.fin rfl ev1 ok1 (.cl (.bl _))⟩
        rw [c.K, c.wd]
        exact .base (.ins ha2 hc I.ha I.hn I.ht I.hm)
/-! ### tests -/
theorem t_of {X : Cx} {W : WX} {p : Expr} {ev : Slots → Store → R T} (h : PE X p (tEv G W ev)) (e : truthB p = true) : PT X p (tTv G W ev) := pt_val h (truth_plain e _)
theorem t_lit {t : T} : ST G P tb n (.lit t) := by
  intro X sc W p c h
  obtain ⟨k, j, pos, rfl, e⟩ := inv_litT h
  exact t_of (e_lit e) rfl
theorem t_var {i : Nat} : ST G P tb n (.var i) := by
  intro X sc W p c h
  obtain ⟨x, pos, rfl, e⟩ := inv_varT h
  exact t_of (e_var c.sc e) rfl
theorem t_call {f : Nat} {es : Es} (ie : SEs G P tb n es) : ST G P tb n (.call f es) := by
  intro X sc W p c h
  obtain ⟨x, px, e, ps, pos, rfl, hg, hf, h1⟩ := inv_callT h
  exact t_of (c_call ie X sc W _ c h) rfl
theorem t_meth {m : Str} {o : E} {es : Es} (io : SE G P tb n o) (ie : SEs G P tb n es) : ST G P tb n (.meth m o es) := by
  intro X sc W p c h
  obtain ⟨eo, apos, ps, pos, rfl, h1, h2, h3, h4, h5⟩ := inv_methT h
  exact t_of (meth_pe io ie c h1 h2 h3 h4 h5) rfl
theorem t_idx {a b : E} (ia : SE G P tb n a) (ib : SE G P tb n b) : ST G P tb n (.idx a b) := by
  intro X sc W p c h
  obtain ⟨ea, eb, pos, rfl, h1, h2, h3⟩ := inv_idxT h
  exact t_of (c_idx ia ib X sc W _ c h) rfl
theorem t_bi {b : Bi} {es : Es} (ie : SEs G P tb n es) : ST G P tb n (.bi b es) := by
  intro X sc W p c h
  obtain ⟨f, y, px, e, ps, pos, hb, rfl, hx, h1⟩ := inv_biT h
  exact t_of (c_bi ie X sc W _ c h) rfl
theorem t_isi {a : E} {cs : List Ty} (ia : SE G P tb n a) : ST G P tb n (.isi a cs) := by
  intro X sc W p c h
  obtain ⟨px, ea, ec, pos, rfl, h1, h2, h3, h4⟩ := inv_isiT h
  exact t_of (c_isi ia X sc W _ c h) rfl
end PC
namespace PC
open PySem PySem.Spec PyProof.Rows L2
variable {G : Glb} {P : Prog} {tb : Tab} {n : Nat}
/-! ### the store cut back -/
def Wd.cut (w : Wd) (n : Nat) : Wd := ⟨w.H, w.r.take n, w.st.take n, w.S⟩
theorem take_get {α : Type} {l : List α} {n i : Nat} {a : α} (h : (l.take n)[i]? = some a) : i < n ∧ l[i]? = some a := by
  rw [List.getElem?_take] at h
  split at h
  · exact ⟨by assumption, h⟩
  · cases h
theorem Wd.Ok.cut {w : Wd} (ok : w.Ok G) (n : Nat) : (w.cut n).Ok G := by
  refine ⟨by simp [Wd.cut, ok.len], ok.nd.sublist (List.take_sublist n _), fun k a t h1 h2 => ?_, ok.trk⟩
  obtain ⟨hk, h1⟩ := take_get h1
  obtain ⟨_, h2⟩ := take_get h2
  refine CellOk.mono (w := w) (w' := w.cut n) (fun _ s => s) (fun n => n) (fun _ _ _ z => z) (fun _ z => z) (fun i x hx => ?_) (ok.cells k a t h1 h2)
  show ((w.r.take n).take k)[i]? = some x
  rw [List.take_take, Nat.min_eq_left (Nat.le_of_lt hk)]
  exact hx
theorem Ev.cut {w0 w : Wd} (e : Ev w0 w) {n : Nat} (h : w0.r.length ≤ n) : Ev w0 (w.cut n) := by
  obtain ⟨m, em, nm⟩ := e.rho
  refine ⟨⟨m.take (n - w0.r.length), ?_, fun a ha => nm a (List.mem_of_mem_take ha)⟩, e.s1, e.s2, e.keep, e.there, fun a l => ?_⟩
  · show w.r.take n = _
    rw [em, List.take_append, List.take_of_length_le h]
  · obtain ⟨k, g, o, xs, h1, h2, h3⟩ := l
    exact e.live a ⟨k, g, o, xs, (take_get h1).2, (take_get h2).2, h3⟩
theorem Ev.cut_r {w0 w : Wd} (e : Ev w0 w) : (w.cut w0.r.length).r = w0.r := by
  obtain ⟨m, em, nm⟩ := e.rho
  show w.r.take _ = _
  rw [em, List.take_append, List.take_of_length_le (Nat.le_refl _), Nat.sub_self, List.take_zero, List.append_nil]
theorem nodup_take {r : List Addr} (nd : r.Nodup) {k n : Nat} {a : Addr} (h : r[k]? = some a) (hk : n ≤ k) : a ∉ r.take n := fun z => by
  obtain ⟨i, hi⟩ := List.mem_iff_getElem?.mp z
  obtain ⟨h1, h2⟩ := take_get hi
  have := nodup_at nd h h2
  omega
/-- a cell of the new ones, as one's own -/
theorem own_cell {w0 w : Wd} (e : Ev w0 w) (ok : w.Ok G) {k : Nat} {a : Addr} {g : Tag} {xs : List T} (h1 : w.r[k]? = some a) (h2 : w.st[k]? = some (.nd g .own xs)) (hk : w0.r.length ≤ k) :
    (w.cut w0.r.length).RO G (.ref a) (.nd g .own xs) [a] ∧ Own w0 (w.cut w0.r.length) [a] := by
  obtain ⟨ns, vs, ha, cs⟩ := ok.cells k a _ h1 h2
  refine ⟨.own ha cs, List.nodup_cons.mpr ⟨by simp, List.nodup_nil⟩, fun b hb => ?_, fun b hb => ?_, fun b hb => ?_⟩
  · rw [List.mem_singleton.mp hb]
    obtain ⟨m, em, nm⟩ := e.rho
    rw [em, List.getElem?_append_right hk] at h1
    exact nm a (List.mem_of_getElem? h1)
  · rw [List.mem_singleton.mp hb]
    exact ns
  · rw [List.mem_singleton.mp hb]
    exact nodup_take ok.nd h1 hk
theorem cut_r0 {w : Wd} {n : Nat} {v : V} {t : T} {F : List Addr} (h : w.RO G v t F) (ht : ∀ k, t ≠ .ref k) (h1 : ∀ g xs, t ≠ .nd g .opn xs) (h2 : ∀ g xs, t ≠ .nd g .fzr xs) : (w.cut n).RO G v t F := by
  cases h with
  | of0 h =>
    cases h with
    | cl h => exact .of0 (.cl h)
    | ref h => exact absurd rfl (ht _)
    | fzr _ _ _ => exact absurd rfl (h2 _ _)
  | own h c => exact .own h c
  | opn h c => exact absurd rfl (h1 _ _)
theorem cut_own {w0 w : Wd} {n : Nat} {F : List Addr} (o : Own w0 w F) : Own w0 (w.cut n) F := ⟨o.nd, o.new, o.ns, fun a ha h => o.nr a ha (List.mem_of_mem_take h)⟩
theorem load_ok {w0 w : Wd} (e : Ev w0 w) (ok : w.Ok G) : ∀ {xs ys : List T} {vs : List V} {F : List Addr} {used : List Nat}, RepOs G w.H w.S w.r vs xs F → Own w0 w F → loadL w0.r.length w.st used xs = some ys →
    ∃ F', RepOs G (w.cut w0.r.length).H (w.cut w0.r.length).S (w.cut w0.r.length).r vs ys F' ∧ F'.Nodup ∧ ∀ a ∈ F', a ∈ F ∨ ∃ k, w0.r.length ≤ k ∧ k ∉ used ∧ w.r[k]? = some a ∧ ¬ w.S a
  | [], ys, vs, F, used, r, o, h => by
    cases r
    simp only [loadL, Option.some.injEq] at h
    subst h
    exact ⟨[], .nil, List.nodup_nil, by simp⟩
  | x :: xs, ys, _, _, used, .cons (v := v) (F := F1) (F' := F2) r c, o, h => by
    have o1 : Own w0 w F1 := o.sub (List.sublist_append_left _ _)
    have o2 : Own w0 w F2 := o.sub (List.sublist_append_right _ _)
    have dj := (List.nodup_append.mp o.nd).2.2
    have leaf : ∀ {ys' : List T}, leafT x = true → loadL w0.r.length w.st used xs = some ys' → ys = x :: ys' → ∃ F', RepOs G (w.cut w0.r.length).H (w.cut w0.r.length).S (w.cut w0.r.length).r (v :: _) ys F' ∧ F'.Nodup ∧ ∀ a ∈ F', a ∈ F1 ++ F2 ∨ ∃ k, w0.r.length ≤ k ∧ k ∉ used ∧ w.r[k]? = some a ∧ ¬ w.S a := fun {ys'} hl h1 hy => by
      subst hy
      obtain ⟨F', g1, g2, g3⟩ := load_ok e ok c o2 h1
      have r' := cut_r0 (n := w0.r.length) r (fun k z => by rw [z] at hl; cases hl) (fun g xs z => by rw [z] at hl; cases hl) (fun g xs z => by rw [z] at hl; cases hl)
      refine ⟨F1 ++ F', .cons r' g1, List.nodup_append.mpr ⟨o1.nd, g2, fun a ha b hb z => ?_⟩, fun a ha => ?_⟩
      · subst z
        rcases g3 a hb with q | ⟨k, _, _, q, _⟩
        · exact dj a ha a q rfl
        · exact o1.nr a ha (List.mem_of_getElem? q)
      · rcases List.mem_append.mp ha with q | q
        · exact .inl (List.mem_append_left _ q)
        · rcases g3 a q with q | q
          · exact .inl (List.mem_append_right _ q)
          · exact .inr q
    cases x with
    | ref k =>
      obtain ⟨a, rfl, hk, rfl⟩ := RO_ref r
      simp only [loadL] at h
      split at h
      · cases h
      · rename_i hu
        split at h
        · rename_i g zs q
          simp only [Option.map_eq_some_iff] at h
          obtain ⟨ys', h1, rfl⟩ := h
          obtain ⟨F', g1, g2, g3⟩ := load_ok e ok c o2 h1
          have hk0 : w0.r.length ≤ k := Nat.le_of_not_lt fun z => hu (.inl z)
          obtain ⟨c1, c2⟩ := own_cell e ok hk q hk0
          obtain ⟨ns, _⟩ := ok.cells k a _ hk q
          refine ⟨[a] ++ F', .cons c1 g1, List.nodup_append.mpr ⟨by simp, g2, fun b hb b' hb' z => ?_⟩, fun b hb => ?_⟩
          · rw [List.mem_singleton.mp hb] at z
            subst z
            rcases g3 a hb' with q' | ⟨j, _, q1, q2, _⟩
            · exact o2.nr a q' (List.mem_of_getElem? hk)
            · exact q1 (by rw [nodup_at ok.nd q2 hk]; simp)
          · rcases List.mem_append.mp hb with q' | q'
            · rw [List.mem_singleton.mp q']
              exact .inr ⟨k, hk0, fun z => hu (.inr z), hk, ns⟩
            · rcases g3 b q' with z | ⟨j, z1, z2, z3⟩
              · exact .inl (by simpa using z)
              · exact .inr ⟨j, z1, fun z => z2 (List.mem_cons_of_mem _ z), z3⟩
        · cases h
    | _ =>
      simp only [loadL] at h
      split at h
      · rename_i hl
        simp only [Option.map_eq_some_iff] at h
        obtain ⟨ys', h1, rfl⟩ := h
        exact leaf hl h1 rfl
      · cases h
/-- a call's end -/
theorem leave_ok {w0 w : Wd} {t t' : T} {st' : Store} {v : V} {F : List Addr} (e : Ev w0 w) (ok : w.Ok G) (r : w.RO G v t F) (o : Own w0 w F) (h : leaveT w0.r.length t w.st = .ok t' st') :
    (w.cut w0.r.length).st = st' ∧ ∃ F', (w.cut w0.r.length).RO G v t' F' ∧ Own w0 (w.cut w0.r.length) F' := by
  unfold leaveT at h
  split at h
  · rename_i k
    obtain ⟨a, rfl, hk, rfl⟩ := RO_ref r
    split at h
    · rename_i hl
      cases h
      exact ⟨rfl, [], .of0 (.ref (by show (w.r.take _)[k]? = _; rw [List.getElem?_take, if_pos hl]; exact hk)), Own.nil⟩
    · rename_i hl
      split at h
      · rename_i g xs q
        cases h
        exact ⟨rfl, [a], own_cell e ok hk q (Nat.le_of_not_lt hl)⟩
      · rename_i g xs q
        cases h
        obtain ⟨s, vs, ha, cs⟩ := ok.cells k a _ hk q
        exact ⟨rfl, [], .of0 (.cl (.nd s ha cs)), Own.nil⟩
      · rename_i g xs q
        split at h
        · rename_i ys hld
          cases h
          obtain ⟨ns, vs, ha, cs⟩ := ok.cells k a _ hk q
          have cs1 : Rep0s G w.H w.S w.r vs xs := Rep0s.mono (fun _ z => z) (fun _ _ _ z => z) (fun i b z => by
            rw [List.getElem?_take] at z
            split at z
            · exact z
            · cases z) cs
          have cs2 : RepOs G w.H w.S w.r vs xs [] := cs1.toO
          obtain ⟨F', g1, g2, g3⟩ := load_ok e ok cs2 Own.nil hld
          have hk0 : w0.r.length ≤ k := Nat.le_of_not_lt hl
          have g4 : ∀ b ∈ F', ∃ j, w0.r.length ≤ j ∧ j ≠ k ∧ w.r[j]? = some b ∧ ¬ w.S b := fun b hb => by
            rcases g3 b hb with z | ⟨j, z1, z2, z3, z4⟩
            · cases z
            · exact ⟨j, z1, by simpa using z2, z3, z4⟩
          have na : a ∉ F' := fun hb => by
            obtain ⟨j, _, z2, z3, _⟩ := g4 a hb
            exact z2 (nodup_at ok.nd z3 hk)
          have each : ∀ b ∈ a :: F', w0.H b = none ∧ ¬ w.S b ∧ b ∉ (w.cut w0.r.length).r := fun b hb => by
            obtain ⟨j, q1, q2, q3⟩ : ∃ j, w0.r.length ≤ j ∧ w.r[j]? = some b ∧ ¬ w.S b := by
              rcases List.mem_cons.mp hb with rfl | hb
              · exact ⟨k, hk0, hk, ns⟩
              · obtain ⟨j, z1, _, z3, z4⟩ := g4 b hb
                exact ⟨j, z1, z3, z4⟩
            refine ⟨?_, q3, nodup_take ok.nd q2 q1⟩
            obtain ⟨m, em, nm⟩ := e.rho
            rw [em, List.getElem?_append_right q1] at q2
            exact nm b (List.mem_of_getElem? q2)
          exact ⟨rfl, a :: F', .opn ha g1, List.nodup_cons.mpr ⟨na, g2⟩, fun b hb => (each b hb).1, fun b hb => (each b hb).2.1, fun b hb => (each b hb).2.2⟩
        · cases h
      · cases h
  · rename_i g xs
    split at h
    · rename_i ys hl
      cases h
      cases r with
      | of0 r => cases r with
        | cl r => cases r
      | opn ha cs =>
        rename_i a vs F1
        obtain ⟨F', g1, g2, g3⟩ := load_ok e ok cs (o.sub (List.sublist_cons_self _ _)) hl
        have na : a ∉ F1 := (List.nodup_cons.mp o.nd).1
        have each : ∀ b ∈ F', w0.H b = none ∧ ¬ w.S b ∧ b ∉ (w.cut w0.r.length).r := fun b hb => by
          rcases g3 b hb with q | ⟨k, q1, _, q2, q3⟩
          · exact ⟨o.new b (List.mem_cons_of_mem _ q), o.ns b (List.mem_cons_of_mem _ q), fun z => o.nr b (List.mem_cons_of_mem _ q) (List.mem_of_mem_take z)⟩
          · refine ⟨?_, q3, nodup_take ok.nd q2 q1⟩
            obtain ⟨m, em, nm⟩ := e.rho
            rw [em, List.getElem?_append_right q1] at q2
            exact nm b (List.mem_of_getElem? q2)
        refine ⟨rfl, a :: F', .opn ha g1, List.nodup_cons.mpr ⟨fun z => ?_, g2⟩, fun b hb => ?_, fun b hb => ?_, fun b hb => ?_⟩
        · rcases g3 a z with q | ⟨k, _, _, q, _⟩
          · exact na q
          · exact o.nr a (by simp) (List.mem_of_getElem? q)
        · rcases List.mem_cons.mp hb with rfl | hb
          · exact o.new b (by simp)
          · exact (each b hb).1
        · rcases List.mem_cons.mp hb with rfl | hb
          · exact o.ns b (by simp)
          · exact (each b hb).2.1
        · rcases List.mem_cons.mp hb with rfl | hb
          · exact fun z => o.nr b (by simp) (List.mem_of_mem_take z)
          · exact (each b hb).2.2
    · cases h
  · cases h
  · rename_i h1 h2 h3
    cases h
    exact ⟨rfl, F, cut_r0 r h1 (fun g xs => h2 g xs) (fun g xs => h3 g xs), cut_own o⟩
theorem leave_or (n : Nat) (t : T) (st : Store) : (∃ t' st', leaveT n t st = .ok t' st') ∨ leaveT n t st = .bad := by
  unfold leaveT
  split
  · split
    · exact .inl ⟨_, _, rfl⟩
    · split
      · exact .inl ⟨_, _, rfl⟩
      · exact .inl ⟨_, _, rfl⟩
      · split
        · exact .inl ⟨_, _, rfl⟩
        · exact .inr rfl
      · exact .inr rfl
  · split
    · exact .inl ⟨_, _, rfl⟩
    · exact .inr rfl
  · exact .inr rfl
  · exact .inl ⟨_, _, rfl⟩
/-! ### C(..) -/
theorem c_make {cc : Nat} {es : Es} (ie : SEs G P tb n es) : SE G P tb n (.make cc es) := by
  intro X sc W p c h
  obtain ⟨x, px, e, ps, pos, rfl, hg, hf, h1⟩ := inv_make h
  obtain ⟨ga, gb, _⟩ := glB_ok hg c.sc
  cases hi : P.inits.lookup cc with
  | none => exact pe_no fun σ H Q ⟨w, sl, e, ok, hs, h⟩ => by simp only [evE, hi] at h; exact h
  | some f =>
    have hm := c.gl.cls cc x hf
    obtain ⟨M, hC⟩ := c.gl.init cc f hi
    obtain ⟨F, hF⟩ := get_of_some (c.gl.has.2.2 cc f hi)
    obtain ⟨hb, hl⟩ := c.gl.bind f F hF
    obtain ⟨pa, pl⟩ := ie X sc W _ c h1
    rw [List.all_cons, Bool.and_eq_true] at pl
    refine PE.imp (pe_makeSD (E := WE W) (k := n) (by rw [c.K]; exact M) (c.fns1 f F hF) c.room ga (by rw [c.mg]; exact hm) (by rw [c.K]; exact hb) c.pass pa gb (star_plain pl.1 _ _) (stars_any pl.2 _ _)) fun σ H Q ⟨w, sl, e, ok, hs, h⟩ => ?_
    subst e
    simp only [evE, hi, callN_mk (c.gl.low f)] at h
    refine Post.bindL Ev.refl h ok hs fun xs st1 vs w1 F1 h e1 ev1 ok1 r1 o1 => ?_
    subst e1
    rcases fzas_R xs w1.st with ⟨ys, st2, q⟩ | q
    · rw [q] at h
      obtain ⟨w2, e2, m2, c2⟩ := fzas_ok ok1 r1 o1 q
      subst e2
      have ev2 := m2.ev ev1 o1.new
      have h : Post G W w σ ((callN P (n - 1) f (.ref w2.st.length :: ys) (w2.st ++ [.nd (.obj cc []) .own []])).bind fun r st' => match r with
        | .non => madeT w2.st.length st'
        | _ => .bad) Q := h
      intro a dx ha hdx hne
      rw [← m2.H] at ha hdx ⊢
      let wa := w2.addO dx (.own a)
      have eva : Ev w2 wa := Ev.addO hdx
      have oka : wa.Ok G := m2.ok.addO hdx
      have haa : wa.H a = none := by show upd w2.H dx (.own a) a = none; rw [upd_ne (Ne.symm hne)]; exact ha
      let wb := wa.addO a (.ins (G.cls cc) dx [])
      have evb : Ev wa wb := Ev.addO haa
      have okb : wb.Ok G := oka.addO haa
      let wc : Wd := ⟨wb.H, wb.r ++ [a], wb.st ++ [.nd (.obj cc []) .own []], wb.S⟩
      have gw : Gw G wb wc [a] := Gw.cell (t := .nd (.obj cc []) .own []) okb (oka.noR haa) ⟨_, upd_same⟩ ⟨oka.noS haa, [], ⟨⟨hC, by simp⟩, rfl, dx, upd_same⟩, .nil⟩
      have evab : Ev w2 wb := eva.trans evb
      have evc2 : Ev w2 wc := gw.ev evab fun b hb => by rw [List.mem_singleton.mp hb]; exact ha
      have evc := ev2.trans evc2
      refine ⟨wc, .ref w2.st.length :: ys, rfl, gw.ok, .cons (ref_last (w := wb) okb) (gw.r0s' (evab.r0s m2.ok c2)), ?_, ?_⟩
      · have := call_len h hF
        rw [List.length_cons, c2.length, hl, ← this, List.length_cons]
      · show PostF G wc (callN P (n - 1) f (.ref w2.st.length :: ys) (w2.st ++ [.nd (.obj cc []) .own []])) _ _
        cases q3 : callN P (n - 1) f (.ref w2.st.length :: ys) (w2.st ++ [.nd (.obj cc []) .own []]) with
        | bad => rw [q3] at h; exact h.elim
        | exc k st4 =>
          rw [q3] at h
          exact fun w4 e4 er4 ev4 ok4 => h w4 e4 (evc.trans ev4) ok4
        | ok t st4 =>
          rw [q3] at h
          intro v w4 F4 e4 er4 ev4 ok4 r4 o4
          have h : Post G W w σ (match (generalizing := false) t with
            | .non => madeT w2.st.length st4
            | _ => .bad) Q := h
          split at h
          · obtain ⟨rfl, rfl⟩ := RO_non r4
            refine ⟨rfl, ?_⟩
            subst e4
            unfold madeT at h
            split at h
            · rename_i c' fn xs' q4
              have ev04 : Ev w2 w4 := evc2.trans ev4
              have hk : w4.r[w2.r.length]? = some a := by
                rw [er4]
                show (w2.r ++ [a])[w2.r.length]? = some a
                rw [List.getElem?_append_right (Nat.le_refl _)]
                simp
              rw [← m2.ok.len] at q4 h
              obtain ⟨ro, ow⟩ := own_cell ev04 ok4 hk q4 (Nat.le_refl _)
              exact h (.ref a) (w4.cut w2.r.length) [a] rfl (ev2.trans (ev04.cut (Nat.le_refl _))) (ok4.cut _) ro (ow.back ev2)
            · exact h.elim
          · exact h.elim
    · rw [q] at h
      exact h.elim
end PC
namespace PC
open PySem PySem.Spec PyProof.Rows L2
variable {G : Glb} {P : Prog} {tb : Tab} {n : Nat}
/-! ### what is walked -/
/-- what J yields from w on -/
structure Wk (G : Glb) (J : L2.It) (w : Wd) (ts : List T) : Prop where
  stop : ∀ w', Ev w w' → w'.Ok G → J.stop ts.length w'.H
  go : ∀ w' i t, Ev w w' → w'.Ok G → ts[i]? = some t → J.go i w'.H ∧ ∀ x H', J.yld i w'.H x H' → ∃ w'', w''.H = H' ∧ w''.st = w'.st ∧ Ev w' w'' ∧ w''.Ok G ∧ w''.R0 G x t
/-- stands there from w on -/
def Stab (G : Glb) (w : Wd) (a : Addr) (g : Tag) (vs : List V) : Prop := ∀ w', Ev w w' → w'.Ok G → AtF G w'.H a g vs
theorem Stab.of {w : Wd} {a : Addr} {g : Tag} {vs : List V} (nl : ¬ Live w a) (h : AtF G w.H a g vs) : Stab G w a g vs := fun w' e _ => h.mono fun o q => e.keep a o q nl
theorem Stab.mono {w w1 : Wd} {a : Addr} {g : Tag} {vs : List V} (s : Stab G w a g vs) (e : Ev w w1) : Stab G w1 a g vs := fun w' e' ok => s w' (e.trans e') ok
theorem Wd.Ok.lock {w : Wd} (ok : w.Ok G) {k : Nat} {a : Addr} {g : Tag} {o o' : Ow} {xs : List T} (h1 : w.r[k]? = some a) (h2 : w.st[k]? = some (.nd g o xs)) (ho : (o = .own ∧ o' = .lk) ∨ (o = .opn ∧ o' = .lkx)) :
    Wd.Ok G ⟨w.H, w.r, w.st.set k (.nd g o' xs), w.S⟩ ∧ Ev w ⟨w.H, w.r, w.st.set k (.nd g o' xs), w.S⟩ ∧ ¬ Live ⟨w.H, w.r, w.st.set k (.nd g o' xs), w.S⟩ a := by
  have hk : k < w.st.length := (List.getElem?_eq_some_iff.mp h2).1
  have c0 := ok.cells k a _ h1 h2
  have c1 : CellOk G w k a (.nd g o' xs) := by rcases ho with ⟨rfl, rfl⟩ | ⟨rfl, rfl⟩ <;> exact c0
  have lv : Live w a := ⟨k, g, o, xs, h1, h2, by rcases ho with ⟨rfl, _⟩ | ⟨rfl, _⟩ <;> simp⟩
  refine ⟨⟨by simp [ok.len], ok.nd, fun j b t q1 q2 => ?_, ok.trk⟩, ⟨⟨[], by simp, by simp⟩, fun _ s => s, fun _ s => .inl s, fun _ _ h _ => h, fun _ u h => ⟨u, h⟩, fun b l => ?_⟩, fun l => ?_⟩
  · have q2 : (w.st.set k (.nd g o' xs))[j]? = some t := q2
    by_cases e : k = j
    · subst e
      have eb : a = b := Option.some.inj (h1.symm.trans q1)
      subst eb
      rw [List.getElem?_set_self hk] at q2
      cases q2
      exact c1
    · rw [List.getElem?_set_ne e] at q2
      exact ok.cells j b t q1 q2
  · rcases live_set h1 ok.nd l with l | e
    · exact .inl l
    · rw [e]; exact .inl lv
  · obtain ⟨j, g', o2, ys, q1, q2, q3⟩ := l
    have e : k = j := nodup_at ok.nd h1 q1
    subst e
    have q2 : (w.st.set k (.nd g o' xs))[k]? = some (.nd g' o2 ys) := q2
    rw [List.getElem?_set_self hk] at q2
    cases q2
    rcases ho with ⟨_, rfl⟩ | ⟨_, rfl⟩ <;> rcases q3 with z | z <;> cases z
theorem not_live {w : Wd} (ok : w.Ok G) {k : Nat} {a : Addr} {g : Tag} {o : Ow} {xs : List T} (h1 : w.r[k]? = some a) (h2 : w.st[k]? = some (.nd g o xs)) (h3 : o ≠ .own) (h4 : o ≠ .opn) : ¬ Live w a := fun l => by
  obtain ⟨j, g', o2, ys, q1, q2, q3⟩ := l
  have e : k = j := nodup_at ok.nd h1 q1
  subst e
  rw [h2] at q2
  cases q2
  rcases q3 with z | z
  · exact h3 z
  · exact h4 z
theorem ros_flat {w : Wd} : ∀ {vs : List V} {xs : List T} {F : List Addr}, RepOs G w.H w.S w.r vs xs F → xs.all flat0 = true → w.R0s G vs xs
  | _, _, _, .nil, _ => .nil
  | _, _, _, .cons h t, hf => by
    rw [List.all_cons, Bool.and_eq_true] at hf
    cases h with
    | of0 r => exact .cons r (ros_flat t hf.2)
    | own _ _ => cases hf.1
    | opn _ _ => cases hf.1
theorem walked_ok {w0 w : Wd} {t : T} {v : V} {F : List Addr} {xs : List T} {c : Bool} {ks : List Nat} {st' : Store} (ok : w.Ok G) (r : w.RO G v t F) (ow : Own w0 w F) (h : walked t w.st = some (xs, c, ks, st')) :
    ∃ w' a g vs o, w'.st = st' ∧ w'.H = w.H ∧ Ev w w' ∧ w'.Ok G ∧ v = .ref a ∧ nodeOf w.st t = some (g, o, xs) ∧ (g = .lst ∨ g = .scr ∨ g = .tup) ∧ Stab G w' a g vs ∧ AtF G w'.H a g vs ∧ w'.R0s G vs xs ∧ (c = true → w'.RCs G vs xs) ∧ ∀ k ∈ ks, ∀ a, w'.r[k]? = some a → Live w a := by
  have frz : ∀ {g : Tag} {ys : List T}, t = .nd g .fz ys → (g = .lst ∨ g = .scr ∨ g = .tup) → some (ys, true, ([] : List Nat), w.st) = some (xs, c, ks, st') → ∃ w' a g vs o, w'.st = st' ∧ w'.H = w.H ∧ Ev w w' ∧ w'.Ok G ∧ v = .ref a ∧ nodeOf w.st t = some (g, o, xs) ∧ (g = .lst ∨ g = .scr ∨ g = .tup) ∧ Stab G w' a g vs ∧ AtF G w'.H a g vs ∧ w'.R0s G vs xs ∧ (c = true → w'.RCs G vs xs) ∧ ∀ k ∈ ks, ∀ a, w'.r[k]? = some a → Live w a := fun {g ys} e hg h2 => by
    clear h
    subst e
    cases h2
    cases r with
    | of0 r =>
      cases r with
      | cl r =>
        cases r with
        | nd s ha cs => exact ⟨w, _, g, _, _, rfl, rfl, Ev.refl, ok, rfl, rfl, hg, Stab.of (fun l => ok.live l s) ha, ha, cs.to0, fun _ => cs, by simp⟩
        | ndK ha cs => exact ⟨w, _, g, _, _, rfl, rfl, Ev.refl, ok, rfl, rfl, hg, fun w' _ _ => ha _, ha _, cs.to0, fun _ => cs, by simp⟩
  unfold walked at h
  split at h
  · exact frz rfl (.inl rfl) h
  · exact frz rfl (.inr (.inl rfl)) h
  · exact frz rfl (.inr (.inr rfl)) h
  · cases h
    cases r with
    | of0 r => cases r with | cl r => cases r
    | own ha cs =>
      rename_i a vs
      exact ⟨w, a, .lst, vs, _, rfl, rfl, Ev.refl, ok, rfl, rfl, .inl rfl, Stab.of (fun l => ow.nr a (by simp) l.mem) ha.f, ha.f, cs.to0, fun _ => cs, by simp⟩
  · split at h
    · rename_i hfl
      cases h
      cases r with
      | of0 r => cases r with | cl r => cases r
      | opn ha cs =>
        rename_i a vs F
        exact ⟨w, a, .lst, vs, _, rfl, rfl, Ev.refl, ok, rfl, rfl, .inl rfl, Stab.of (fun l => ow.nr a (by simp) l.mem) ha.f, ha.f, ros_flat cs hfl, (fun e => nomatch e), by simp⟩
    · cases h
  · rename_i k
    obtain ⟨a, rfl, hk, rfl⟩ := RO_ref r
    split at h
    · rename_i ys q
      cases h
      obtain ⟨ns, vs, ha, cs⟩ := ok.cells k a _ hk q
      obtain ⟨ok', ev, nl⟩ := ok.lock (o' := .lk) hk q (.inl ⟨rfl, rfl⟩)
      exact ⟨⟨w.H, w.r, w.st.set k (.nd .lst .lk xs), w.S⟩, a, .lst, vs, .own, rfl, rfl, ev, ok', rfl, by simp only [nodeOf, q], .inl rfl, Stab.of nl ha.f, ha.f, cs.to0, fun _ => cs, fun j hj b hb => by
        rw [List.mem_singleton.mp hj] at hb
        have e : a = b := Option.some.inj (hk.symm.trans hb)
        subst e
        exact ⟨k, _, _, _, hk, q, .inl rfl⟩⟩
    · rename_i ys q
      cases h
      obtain ⟨ns, vs, ha, cs⟩ := ok.cells k a _ hk q
      obtain ⟨ok', ev, nl⟩ := ok.lock (o' := .lkx) hk q (.inr ⟨rfl, rfl⟩)
      exact ⟨⟨w.H, w.r, w.st.set k (.nd .lst .lkx xs), w.S⟩, a, .lst, vs, .opn, rfl, rfl, ev, ok', rfl, by simp only [nodeOf, q], .inl rfl, Stab.of nl ha.f, ha.f, cs.take_r, (fun e => nomatch e), fun j hj b hb => by
        rw [List.mem_singleton.mp hj] at hb
        have e : a = b := Option.some.inj (hk.symm.trans hb)
        subst e
        exact ⟨k, _, _, _, hk, q, .inr rfl⟩⟩
    · rename_i ys q
      cases h
      obtain ⟨s, vs, ha, cs⟩ := ok.cells k a _ hk q
      exact ⟨w, a, .lst, vs, .fz, rfl, rfl, Ev.refl, ok, rfl, by simp only [nodeOf, q], .inl rfl, Stab.of (fun l => ok.live l s) ha, ha, cs.to0, fun _ => cs, by simp⟩
    · rename_i ys q
      cases h
      obtain ⟨ns, vs, ha, cs⟩ := ok.cells k a _ hk q
      exact ⟨w, a, .lst, vs, .lk, rfl, rfl, Ev.refl, ok, rfl, by simp only [nodeOf, q], .inl rfl, Stab.of (not_live ok hk q (by simp) (by simp)) ha.f, ha.f, cs.to0, fun _ => cs, by simp⟩
    · rename_i ys q
      cases h
      obtain ⟨ns, vs, ha, cs⟩ := ok.cells k a _ hk q
      exact ⟨w, a, .lst, vs, .lkx, rfl, rfl, Ev.refl, ok, rfl, by simp only [nodeOf, q], .inl rfl, Stab.of (not_live ok hk q (by simp) (by simp)) ha.f, ha.f, cs.take_r, (fun e => nomatch e), by simp⟩
    · cases h
  · cases h
theorem Stab.L {w : Wd} {a : Addr} {g : Tag} {vs : List V} (s : Stab G w a g vs) (h : g = .lst ∨ g = .scr) : ∀ w', Ev w w' → w'.Ok G → SqL G.K w'.H a vs := fun w' e ok => by
  rcases h with rfl | rfl
  · exact SqL.of (s w' e ok)
  · exact s w' e ok
theorem Stab.T {w : Wd} {a : Addr} {vs : List V} (s : Stab G w a .tup vs) : ∀ w', Ev w w' → w'.Ok G → SqT G.K w'.H a vs := fun w' e ok => SqT.of (s w' e ok)
theorem wk_lst {w : Wd} {a : Addr} {vs : List V} {ts : List T} (ok : w.Ok G) (s : ∀ w', Ev w w' → w'.Ok G → SqL G.K w'.H a vs) (c : w.R0s G vs ts) : Wk G (Itl G.K a) w ts := by
  refine ⟨fun w' e ok' => ⟨vs, s w' e ok', by rw [c.length]; exact Nat.le_refl _⟩, fun w' i t e ok' ht => ?_⟩
  obtain ⟨v, hv, r⟩ := c.get ht
  refine ⟨⟨vs, v, s w' e ok', hv⟩, fun x H' ⟨hH, hx⟩ => ⟨w', hH.symm, rfl, Ev.refl, ok', ?_⟩⟩
  have := hx vs (s w' e ok')
  rw [hv] at this
  cases this
  exact e.r0 ok r
theorem wk_tup {w : Wd} {a : Addr} {vs : List V} {ts : List T} (ok : w.Ok G) (s : ∀ w', Ev w w' → w'.Ok G → SqT G.K w'.H a vs) (c : w.R0s G vs ts) : Wk G (Itt G.K a) w ts := by
  refine ⟨fun w' e ok' => ⟨vs, s w' e ok', by rw [c.length]; exact Nat.le_refl _⟩, fun w' i t e ok' ht => ?_⟩
  obtain ⟨v, hv, r⟩ := c.get ht
  refine ⟨⟨vs, v, s w' e ok', hv⟩, fun x H' ⟨hH, hx⟩ => ⟨w', hH.symm, rfl, Ev.refl, ok', ?_⟩⟩
  have := hx vs (s w' e ok')
  rw [hv] at this
  cases this
  exact e.r0 ok r
theorem rng_len (lo : Int) (k : Nat) : (rngT lo k).length = k := by
  induction k generalizing lo with
  | zero => rfl
  | succ k ih => simp only [rngT, List.length_cons, ih]
theorem rng_get : ∀ {k i : Nat} {lo : Int} {t : T}, (rngT lo k)[i]? = some t → i < k ∧ t = .int (lo + i)
  | 0, i, lo, t, h => by simp [rngT] at h
  | k + 1, 0, lo, t, h => by
    simp only [rngT, List.getElem?_cons_zero, Option.some.injEq] at h
    exact ⟨Nat.succ_pos _, by rw [← h]; simp⟩
  | k + 1, i + 1, lo, t, h => by
    simp only [rngT, List.getElem?_cons_succ] at h
    obtain ⟨h1, h2⟩ := rng_get h
    refine ⟨Nat.succ_lt_succ h1, ?_⟩
    rw [h2]
    congr 1
    omega
theorem wk_rng {w : Wd} (lo : Int) (k : Nat) : Wk G (Itr lo k) w (rngT lo k) := by
  refine ⟨fun w' e ok' => by show k ≤ _; rw [rng_len]; exact Nat.le_refl _, fun w' i t e ok' ht => ?_⟩
  obtain ⟨h1, rfl⟩ := rng_get ht
  exact ⟨h1, fun x H' ⟨hH, hx⟩ => ⟨w', hH.symm, rfl, Ev.refl, ok', by rw [hx]; exact .cl (.int _)⟩⟩
theorem dn_len : ∀ (lo : Int) (n : Nat), (dnT lo n).length = n
  | _, 0 => rfl
  | lo, n + 1 => congrArg Nat.succ (dn_len (lo - 1) n)
theorem dn_get : ∀ {lo : Int} {n i : Nat} {t : T}, (dnT lo n)[i]? = some t → i < n ∧ t = .int (lo + (i : Int) * -1)
  | lo, 0, i, t, h => by simp [dnT] at h
  | lo, n + 1, 0, t, h => by
    simp only [dnT, List.getElem?_cons_zero, Option.some.injEq] at h
    exact ⟨by omega, by rw [← h]; simp⟩
  | lo, n + 1, i + 1, t, h => by
    simp only [dnT, List.getElem?_cons_succ] at h
    obtain ⟨h1, h2⟩ := dn_get h
    refine ⟨by omega, ?_⟩
    rw [h2]
    congr 1
    omega
theorem wk_dn {w : Wd} (lo : Int) (k : Nat) : Wk G (Itc lo (-1) k) w (dnT lo k) := by
  refine ⟨fun w' e ok' => by show k ≤ _; rw [dn_len]; exact Nat.le_refl _, fun w' i t e ok' ht => ?_⟩
  obtain ⟨h1, rfl⟩ := dn_get ht
  exact ⟨h1, fun x H' ⟨hH, hx⟩ => ⟨w', hH.symm, rfl, Ev.refl, ok', by rw [hx]; exact .cl (.int _)⟩⟩
/-- a new pair -/
theorem pair_ok {w : Wd} (ok : w.Ok G) {p : Addr} (hp : w.H p = none) {vs : List V} {ts : List T} {c : Bool} (h : w.R0s G vs ts) (hc : c = true → w.RCs G vs ts) :
    ∃ w'', w''.H = upd w.H p (.tup vs) ∧ w''.st = w.st ∧ Ev w w'' ∧ w''.Ok G ∧ w''.R0 G (.ref p) (pairT c ts) := by
  refine ⟨w.addF p (.tup vs), rfl, rfl, Ev.addF hp, ok.addF hp, ?_⟩
  have e : Ev w (w.addF p (.tup vs)) := Ev.addF hp
  cases c with
  | true => exact .cl (.nd (.inr rfl) upd_same (e.rcs ok (hc rfl)))
  | false => exact .fzr (.inr rfl) upd_same (e.r0s ok h)
theorem enum_len (c : Bool) : ∀ (xs : List T) (j : Nat), (enumT c j xs).length = xs.length
  | [], _ => rfl
  | x :: xs, j => congrArg Nat.succ (enum_len c xs (j + 1))
theorem enum_get {c : Bool} : ∀ {xs : List T} {i j : Nat} {t : T}, (enumT c j xs)[i]? = some t → ∃ x, xs[i]? = some x ∧ t = pairT c [.int (j + i : Nat), x]
  | [], i, j, t, h => by simp [enumT] at h
  | x :: xs, 0, j, t, h => by
    simp only [enumT, List.getElem?_cons_zero, Option.some.injEq] at h
    exact ⟨x, rfl, h.symm⟩
  | x :: xs, i + 1, j, t, h => by
    simp only [enumT, List.getElem?_cons_succ] at h
    obtain ⟨y, h1, h2⟩ := enum_get h
    exact ⟨y, by simpa using h1, by rw [h2]; congr 4; omega⟩
theorem wk_enum {w : Wd} {a : Addr} {vs : List V} {ts : List T} {c : Bool} (ok : w.Ok G) (s : ∀ w', Ev w w' → w'.Ok G → SqL G.K w'.H a vs) (h : w.R0s G vs ts) (hc : c = true → w.RCs G vs ts) : Wk G (Ite G.K a) w (enumT c 0 ts) := by
  refine ⟨fun w' e ok' => ⟨vs, s w' e ok', by rw [h.length, enum_len]; exact Nat.le_refl _⟩, fun w' i t e ok' ht => ?_⟩
  obtain ⟨y, hy, rfl⟩ := enum_get ht
  obtain ⟨v, hv, r⟩ := h.get hy
  refine ⟨⟨vs, v, s w' e ok', hv⟩, fun x H' ⟨p, x0, ex, hp, hH, hx⟩ => ?_⟩
  have := hx vs (s w' e ok')
  rw [hv] at this
  cases this
  subst ex hH
  rw [Nat.zero_add]
  refine pair_ok ok' hp (.cons (.cl (.int _)) (.cons (e.r0 ok r) .nil)) fun q => ?_
  obtain ⟨v', hv', r'⟩ := (hc q).get hy
  rw [hv] at hv'
  cases hv'
  exact .cons (.int _) (.cons (e.rc ok r') .nil)
theorem zip_get {c : Bool} : ∀ {xs ys : List T} {i : Nat} {t : T}, (zipT c xs ys)[i]? = some t → ∃ x y, xs[i]? = some x ∧ ys[i]? = some y ∧ t = pairT c [x, y]
  | [], _, i, t, h => by simp [zipT] at h
  | _ :: _, [], i, t, h => by simp [zipT] at h
  | x :: xs, y :: ys, 0, t, h => by
    simp only [zipT, List.getElem?_cons_zero, Option.some.injEq] at h
    exact ⟨x, y, rfl, rfl, h.symm⟩
  | x :: xs, y :: ys, i + 1, t, h => by
    simp only [zipT, List.getElem?_cons_succ] at h
    obtain ⟨a, b, h1, h2, h3⟩ := zip_get h
    exact ⟨a, b, by simpa using h1, by simpa using h2, h3⟩
theorem zip_len {c : Bool} : ∀ (xs ys : List T), xs.length ≤ (zipT c xs ys).length ∨ ys.length ≤ (zipT c xs ys).length
  | [], _ => .inl (Nat.zero_le _)
  | _ :: _, [] => .inr (Nat.zero_le _)
  | x :: xs, y :: ys => by
    rcases zip_len (c := c) xs ys with h | h
    · exact .inl (Nat.succ_le_succ h)
    · exact .inr (Nat.succ_le_succ h)
section
variable {w : Wd} {a b : Addr} {vs us : List V} {ts rs : List T} {c c' : Bool}
theorem zip_pair (ok : w.Ok G) (h : w.R0s G vs ts) (hc : c = true → w.RCs G vs ts) (h' : w.R0s G us rs) (hc' : c' = true → w.RCs G us rs) {i : Nat} {t : T} (ht : (zipT (c && c') ts rs)[i]? = some t) {w' : Wd} (e : Ev w w') (ok' : w'.Ok G) :
    ∃ v u, vs[i]? = some v ∧ us[i]? = some u ∧ ∀ p, w'.H p = none → ∃ w'', w''.H = upd w'.H p (.tup [v, u]) ∧ w''.st = w'.st ∧ Ev w' w'' ∧ w''.Ok G ∧ w''.R0 G (.ref p) t := by
  obtain ⟨x, y, hx, hy, rfl⟩ := zip_get ht
  obtain ⟨v, hv, r⟩ := h.get hx
  obtain ⟨u, hu, r'⟩ := h'.get hy
  refine ⟨v, u, hv, hu, fun p hp => pair_ok ok' hp (.cons (e.r0 ok r) (.cons (e.r0 ok r') .nil)) fun q => ?_⟩
  rw [Bool.and_eq_true] at q
  obtain ⟨v', hv', q1⟩ := (hc q.1).get hx
  obtain ⟨u', hu', q2⟩ := (hc' q.2).get hy
  rw [hv] at hv'
  rw [hu] at hu'
  cases hv'
  cases hu'
  exact .cons (e.rc ok q1) (.cons (e.rc ok q2) .nil)
theorem wk_zip (ok : w.Ok G) (s : ∀ w', Ev w w' → w'.Ok G → SqL G.K w'.H a vs) (s' : ∀ w', Ev w w' → w'.Ok G → SqL G.K w'.H b us) (h : w.R0s G vs ts) (hc : c = true → w.RCs G vs ts) (h' : w.R0s G us rs) (hc' : c' = true → w.RCs G us rs) :
    Wk G (Itz G.K a b) w (zipT (c && c') ts rs) := by
  refine ⟨fun w' e ok' => ⟨vs, us, s w' e ok', s' w' e ok', by rw [h.length, h'.length]; exact zip_len _ _⟩, fun w' i t e ok' ht => ?_⟩
  obtain ⟨v, u, hv, hu, k⟩ := zip_pair ok h hc h' hc' ht e ok'
  refine ⟨⟨vs, us, v, u, s w' e ok', s' w' e ok', hv, hu⟩, fun x H' ⟨p, x0, y0, ex, hp, hH, hx, hy⟩ => ?_⟩
  have q1 := hx vs (s w' e ok')
  have q2 := hy us (s' w' e ok')
  rw [hv] at q1
  rw [hu] at q2
  cases q1
  cases q2
  subst ex hH
  exact k p hp
theorem wk_zipT (ok : w.Ok G) (s : ∀ w', Ev w w' → w'.Ok G → SqT G.K w'.H a vs) (s' : ∀ w', Ev w w' → w'.Ok G → SqT G.K w'.H b us) (h : w.R0s G vs ts) (hc : c = true → w.RCs G vs ts) (h' : w.R0s G us rs) (hc' : c' = true → w.RCs G us rs) :
    Wk G (RZ.ItzT G.K a b) w (zipT (c && c') ts rs) := by
  refine ⟨fun w' e ok' => ⟨vs, us, s w' e ok', s' w' e ok', by rw [h.length, h'.length]; exact zip_len _ _⟩, fun w' i t e ok' ht => ?_⟩
  obtain ⟨v, u, hv, hu, k⟩ := zip_pair ok h hc h' hc' ht e ok'
  refine ⟨⟨vs, us, v, u, s w' e ok', s' w' e ok', hv, hu⟩, fun x H' ⟨p, x0, y0, ex, hp, hH, hx, hy⟩ => ?_⟩
  have q1 := hx vs (s w' e ok')
  have q2 := hy us (s' w' e ok')
  rw [hv] at q1
  rw [hu] at q2
  cases q1
  cases q2
  subst ex hH
  exact k p hp
end
end PC
namespace PC
open PySem PySem.Spec PyProof.Rows L2
/-! ### zip of a tuple with a list -/
def ItzM (K : PySem.W.Frag) (a b : Addr) : L2.It where
  go := fun i H => ∃ (xs ys : List V) (x y : V), SqT K H a xs ∧ SqL K H b ys ∧ xs[i]? = some x ∧ ys[i]? = some y
  yld := fun i H v H' => ∃ p x y, v = .ref p ∧ H p = none ∧ H' = upd H p (.tup [x, y]) ∧ (∀ xs, SqT K H a xs → xs[i]? = some x) ∧ ∀ ys, SqL K H b ys → ys[i]? = some y
  stop := fun i H => ∃ xs ys : List V, SqT K H a xs ∧ SqL K H b ys ∧ i ≤ xs.length ∧ i ≤ ys.length ∧ (i = xs.length ∨ i = ys.length)
/-- how the five objects of such a zip stand -/
def TnM (z TI TO i1 i2 a b : Addr) (i : Nat) (h : Heap) : Prop :=
  IsZip h z TI TO .none ∧ IsTupOf2 h TI (.ref i1) (.ref i2) ∧ (∃ x y, IsTupOf2 h TO x y) ∧ h.IsTupleIter i1 a i ∧ h.IsListIter i2 b i
theorem fp5 {z TI TO i1 i2 c : Addr} (h : c ∈ [z, TI, TO, i1, i2]) : c = z ∨ c = TI ∨ c = TO ∨ c = i1 ∨ c = i2 := by simpa using h
theorem turn_zipM {P : Program} {w : World} {K : PySem.W.Frag} {elts : List Expr} {kk : Nat} {tpos : Pos} {a b z TI TO i1 i2 : Addr} (D : ZipSep2 z TI TO i1 i2 [i1, a] [i2, b]) :
    Turn P w K (.Tuple elts kk tpos) (ItzM K a b) [z, TI, TO, i1, i2] z (TnM z TI TO i1 i2 a b) where
  mem := by simp
  obj := by
    rintro i h ⟨hz, hTI, ⟨x, y, hTO⟩, ⟨o1, e1, _, d1⟩, ⟨o2, e2, _, d2⟩⟩ c hc
    rcases fp5 hc with rfl | rfl | rfl | rfl | rfl
    · exact ⟨_, hz, fun v q => nomatch q⟩
    · exact ⟨_, hTI, fun v q => nomatch q⟩
    · exact ⟨_, hTO, fun v q => nomatch q⟩
    · exact ⟨o1, e1, fun v q => by simp [d1] at q⟩
    · exact ⟨o2, e2, fun v q => by simp [d2] at q⟩
  keep := by
    rintro i h h' ⟨hz, hTI, ⟨x, y, hTO⟩, h1, h2⟩ k
    have k' : ∀ c ∈ [z, TI, TO, i1, i2], ∀ {o}, h.get? c = some o → h'.get? c = some o := fun c hc o e => k c hc o e
    exact ⟨k' z (by simp) hz, k' TI (by simp) hTI, ⟨x, y, k' TO (by simp) hTO⟩, h1.at fun o e => k' i1 (by simp) e, h2.at fun o e => k' i2 (by simp) e⟩
  item := by
    rintro X rfl rfl rfl hc i pins s σ H E I hf ⟨hz, hTI, ⟨x0, y0, hTO⟩, h1, h2⟩ ⟨xs, ys, x, y, hqx, hqy, hx, hy⟩
    obtain ⟨its, rv, pt, _⟩ := I.tuple hqx
    obtain ⟨its2, rv2, pl, _⟩ := I.list hqy
    obtain ⟨u, hu, ru⟩ := rv.get hx
    obtain ⟨u2, hu2, ru2⟩ := rv2.get hy
    have hh : X.A.in1.handled = none := I.ok.hd hc
    have n1 : a ≠ i1 := fun e => by
      subst e
      obtain ⟨o1, e1, c1, _⟩ := h1
      obtain ⟨o2, e2, c2, _⟩ := (show s.heap.IsTuple a its.toArray from pt)
      rw [e1] at e2
      cases e2
      rw [c1] at c2
      exact absurd c2 (by decide)
    have n2 : b ≠ i2 := fun e => by
      subst e
      obtain ⟨o1, e1, c1, _⟩ := h2
      obtain ⟨o2, e2, c2, _⟩ := pl.isList
      rw [e1] at e2
      cases e2
      rw [c1] at c2
      exact absurd c2 (by decide)
    have D1 := Draws.tuple (prog := X.prog) (w := X.w) hh i1 a n1 its.toArray
    have D2 := Draws.list (prog := X.prog) (w := X.w) hh i2 b n2 its2.toArray
    have zl := Heap.lt_size hz
    have l1 : i < its.toArray.size := (List.getElem?_eq_some_iff.mp hu).1
    have l2 : i < its2.toArray.size := (List.getElem?_eq_some_iff.mp hu2).1
    refine wpAny_pyNext_zipD2_item D D1 D2 hz hTI hTO ⟨h1, pt⟩ ⟨h2, pl.isList⟩ l1 l2 fun x1 x2 h' tk q1 q2 z' TO' t1 t2 hT hsz hk => ?_
    have ex1 : x1 = u := by
      have : its.toArray[i]? = some u := by simpa using hu
      rw [q1] at this
      exact Option.some.inj this
    have ex2 : x2 = u2 := by
      have : its2.toArray[i]? = some u2 := by simpa using hu2
      rw [q2] at this
      exact Option.some.inj this
    subst ex1 ex2
    refine ⟨_, rfl, wpAny_letOwnedTupleGo_zip (s := { s with heap := h', toks := tk }) z' fun h'' z'' sb => ?_⟩
    have gT : h''.get? s.heap.objs.size = some { cls := .type "tuple", data := .seq #[x1, x2] } := (sb.2 _ (Nat.ne_of_gt zl)).trans hT
    have nw : ObjOk X.prog X.w (upd H s.heap.objs.size (.tup [x, y])) h'' s.heap.objs.size (.tup [x, y]) :=
      ⟨by show 2 ≤ sizeLine; decide, [x1, x2], .cons ru (.cons ru2 .nil), ⟨_, gT, rfl, _, rfl⟩⟩
    have ne5 : ∀ {c : Addr}, c ∉ [z, TI, TO, i1, i2] → c ≠ z ∧ c ≠ TO ∧ c ≠ i1 ∧ c ≠ i2 := fun {c} hn => ⟨fun e => hn (by simp [e]), fun e => hn (by simp [e]), fun e => hn (by simp [e]), fun e => hn (by simp [e])⟩
    have J : Inv X pins σ (upd H s.heap.objs.size (.tup [x, y])) { s with heap := h'', toks := tk } :=
      I.turnedNew (t' := tk) (ch := [z, TI, TO, i1, i2]) (fun c o hb e => by
        obtain ⟨m1, m2, m3, m4⟩ := ne5 hb
        exact (sb.2 c m1).trans (hk c o m1 m2 m3 m4 e)) hf (Nat.le_refl _) nw
    have up : ∀ {c : Addr} {o : Obj}, c ≠ z → h'.get? c = some o → h''.get? c = some o := fun {c o} hn e => (sb.2 c hn).trans e
    refine ⟨.ref s.heap.objs.size, _, J, rfl, ⟨_, x, y, rfl, I.hok.fresh (Nat.le_refl _), rfl, fun l hl => by rw [I.tuple_inj hl hqx]; exact hx, fun l hl => by rw [I.list_inj hl hqy]; exact hy⟩,
      ⟨z'', up D.TIz (hk _ _ D.TIz D.TITO D.TIi1 D.TIi2 hTI), ⟨x1, x2, up D.TOz TO'⟩, t1.1.at fun o e => up D.zi1.symm e, t2.1.at fun o e => up D.zi2.symm e⟩, fun c hcm => ?_⟩
    have lt : c < s.heap.objs.size := by
      rcases fp5 hcm with rfl | rfl | rfl | rfl | rfl
      · exact zl
      · exact Heap.lt_size hTI
      · exact Heap.lt_size hTO
      · obtain ⟨_, e1, _⟩ := h1; exact Heap.lt_size e1
      · obtain ⟨_, e2, _⟩ := h2; exact Heap.lt_size e2
    rw [upd_ne (Nat.ne_of_lt lt)]
    exact (hf c hcm).1
  done := by
    rintro X rfl rfl rfl hc i pins s σ H E I hf ⟨hz, hTI, ⟨x0, y0, hTO⟩, h1, h2⟩ ⟨xs, ys, hqx, hqy, le1, le2, hend⟩
    obtain ⟨its, rv, pt, _⟩ := I.tuple hqx
    obtain ⟨its2, rv2, pl, _⟩ := I.list hqy
    have hh : X.A.in1.handled = none := I.ok.hd hc
    have n1 : a ≠ i1 := fun e => by
      subst e
      obtain ⟨o1, e1, c1, _⟩ := h1
      obtain ⟨o2, e2, c2, _⟩ := (show s.heap.IsTuple a its.toArray from pt)
      rw [e1] at e2
      cases e2
      rw [c1] at c2
      exact absurd c2 (by decide)
    have n2 : b ≠ i2 := fun e => by
      subst e
      obtain ⟨o1, e1, c1, _⟩ := h2
      obtain ⟨o2, e2, c2, _⟩ := pl.isList
      rw [e1] at e2
      cases e2
      rw [c1] at c2
      exact absurd c2 (by decide)
    have D1 := Draws.tuple (prog := X.prog) (w := X.w) hh i1 a n1 its.toArray
    have D2 := Draws.list (prog := X.prog) (w := X.w) hh i2 b n2 its2.toArray
    have m1 := rv.length
    have m2 := rv2.length
    refine wpAny_pyNext_zipD2_end D D1 D2 hz hTI hTO ⟨h1, pt⟩ ⟨h2, pl.isList⟩ (i := i) (by simp; omega) (by simp; omega) (by simp; omega) fun h' tk hk => ⟨rfl, ?_⟩
    exact I.turnedL (t' := tk) (ch := [z, TI, TO, i1, i2]) (fun c o hb e => hk c o (fun q => hb (by simp [q])) (fun q => hb (by simp [q])) (fun q => hb (by simp [q])) (fun q => hb (by simp [q])) e) hf
  self := fun A i s Q E st h => wpAny_pyIter_zip st.1 h
/-- the five new cells of a zip -/
abbrev fresh5 (n : Addr) : List Addr := [n + 4, n + 2, n + 3, n, n + 1]
/-- zip of two lists, of two tuples, of a tuple with a list -/
theorem pi_zipX {X : Cx} {e e2 : Expr} {ta : TA} {p pos tpos : Pos} {elts : List Expr} {kk : Nat} (hg : Gl X "zip") (hm : X.mg "zip" = none) (ha : PA X [e, e2] ta)
    (hs : starEach [e, e2] X.env = (false, eval e X.env) :: starEach [e2] X.env) (hpl : (backTo pos (starEach [e2] X.env)).any (·.1) = false) :
    PI X (.Tuple elts kk tpos) (.Call (.Name "zip" p) [e, e2] [] pos) (fun σ H R => ta σ H fun vs H1 => ∃ a b xs ys, vs = [.ref a, .ref b] ∧
      ((SqL X.K H1 a xs ∧ SqL X.K H1 b ys ∧ R (Itz X.K a b) H1) ∨ (SqT X.K H1 a xs ∧ SqT X.K H1 b ys ∧ R (RZ.ItzT X.K a b) H1) ∨ (SqT X.K H1 a xs ∧ SqL X.K H1 b ys ∧ R (ItzM X.K a b) H1))) := by
  constructor
  intro pins s σ H R I h
  refine Call_ (ld_blt I hg hm PyProof.Rows.boot_zip (PyProof.Rows.callWith_type1 (thn (ha.run pos pins s σ H _ I h) ?_) hs hpl))
  rintro us s1 ⟨vs, H1, I1, r1, a, b, xs, ys, rfl, q⟩
  obtain ⟨u1, u2, rfl, ra, rb⟩ := r1.two
  cases ra
  cases rb
  have fr : ∀ c ∈ fresh5 s1.heap.objs.size, FpOk X pins H1 c := fun c hc => by
    have : @LE.le Nat _ s1.heap.objs.size c := by
      rcases fp5 hc with e | e | e | e | e <;> (rw [e]; omega)
    exact I1.fpOk this (I1.hok.fresh this)
  rcases q with ⟨hqx, hqy, q⟩ | ⟨hqx, hqy, q⟩ | ⟨hqx, hqy, q⟩
  · obtain ⟨its, rv, p1, _⟩ := I1.list hqx
    obtain ⟨its2, rv2, p2, _⟩ := I1.list hqy
    exact call_zip_2 p1.isList p2.isList fun h' hz hTI hTO h1 h2 hsz hk => wpAny_pyIter_zip hz ⟨_, fresh5 s1.heap.objs.size, _, Itz X.K a b, H1, rfl, I1.kept (t' := s1.toks) hk, turn_zip (PySem.W.ktu_apart s1.heap.objs.size a b p1.lt p2.lt), ⟨hz, hTI, ⟨_, _, hTO⟩, h1, h2⟩, fr, q⟩
  · obtain ⟨its, rv, p1, _⟩ := I1.tuple hqx
    obtain ⟨its2, rv2, p2, _⟩ := I1.tuple hqy
    have t1 : s1.heap.IsTuple a its.toArray := p1
    have t2 : s1.heap.IsTuple b its2.toArray := p2
    have lts : ∀ {c : Addr} {is : Array Value}, s1.heap.IsTuple c is → c < s1.heap.objs.size := fun ⟨o, e, _⟩ => Heap.lt_size e
    exact RZ.call_zipT t1 t2 fun h' hz hTI hTO h1 h2 hsz hk => wpAny_pyIter_zip hz ⟨_, fresh5 s1.heap.objs.size, _, RZ.ItzT X.K a b, H1, rfl, I1.kept (t' := s1.toks) hk, RZ.turn_zipT (PySem.W.ktu_apart s1.heap.objs.size a b (lts t1) (lts t2)), ⟨hz, hTI, ⟨_, _, hTO⟩, h1, h2⟩, fr, q⟩
  obtain ⟨its, rv, pt, _⟩ := I1.tuple hqx
  obtain ⟨its2, rv2, pl, _⟩ := I1.list hqy
  have la : @LT.lt Nat _ a s1.heap.objs.size := by
    obtain ⟨o, e, _⟩ := (show s1.heap.IsTuple a its.toArray from pt)
    exact Heap.lt_size e
  have lb : @LT.lt Nat _ b s1.heap.objs.size := pl.lt
  refine zip_begins2 (begins_tuple a its.toArray) (begins_list b its2.toArray) pt pl.isList fun h' hz hTI hTO g1 g2 hsz hk => wpAny_pyIter_zip hz ?_
  refine ⟨s1.heap.objs.size + 4, [s1.heap.objs.size + 4, s1.heap.objs.size + 2, s1.heap.objs.size + 3, s1.heap.objs.size, s1.heap.objs.size + 1], _, ItzM X.K a b, H1, rfl, I1.kept (t' := s1.toks) hk, turn_zipM ?_, ⟨hz, hTI, ⟨_, _, hTO⟩, ⟨_, g1, rfl, rfl⟩, ⟨_, g2, rfl, rfl⟩⟩, fr, q⟩
  · have N : ∀ {x y : Nat}, x < y → ¬ x = y := fun h e => by omega
    have N' : ∀ {x y : Nat}, y < x → ¬ x = y := fun h e => by omega
    refine ⟨N (by omega), N (by omega), N (by omega), N' (by omega), by simp, ?_, ?_, N' (by omega), by simp, ?_, ?_, ?_, ?_⟩
    all_goals
      simp only [List.mem_cons, List.not_mem_nil, or_false, not_or]
      exact ⟨by first | exact N (by omega) | exact N' (by omega), by first | exact N (by omega) | exact N' (by omega)⟩
theorem zipT_len (c : Bool) : ∀ (xs ys : List T), (zipT c xs ys).length = min xs.length ys.length
  | [], _ => by simp [zipT]
  | _ :: _, [] => by simp [zipT]
  | x :: xs, y :: ys => by simp [zipT, zipT_len c xs ys]
theorem wk_zipM {G : Glb} {w : Wd} {a b : Addr} {vs us : List V} {ts rs : List T} {c c' : Bool} (ok : w.Ok G) (s : ∀ w', Ev w w' → w'.Ok G → SqT G.K w'.H a vs) (s' : ∀ w', Ev w w' → w'.Ok G → SqL G.K w'.H b us) (h : w.R0s G vs ts) (hc : c = true → w.RCs G vs ts) (h' : w.R0s G us rs) (hc' : c' = true → w.RCs G us rs) :
    Wk G (ItzM G.K a b) w (zipT (c && c') ts rs) := by
  refine ⟨fun w' e ok' => ⟨vs, us, s w' e ok', s' w' e ok', ?_⟩, fun w' i t e ok' ht => ?_⟩
  · rw [h.length, h'.length, zipT_len]
    omega
  · obtain ⟨v, u, hv, hu, k⟩ := zip_pair ok h hc h' hc' ht e ok'
    refine ⟨⟨vs, us, v, u, s w' e ok', s' w' e ok', hv, hu⟩, ?_⟩
    rintro x H' ⟨p, x0, y0, rfl, hp, rfl, hx, hy⟩
    have q1 := (hx vs (s w' e ok')).symm.trans hv
    have q2 := (hy us (s' w' e ok')).symm.trans hu
    cases q1
    cases q2
    exact k p hp
end PC
namespace PC
open PySem PySem.Spec PyProof.Rows L2
/-! ### zip of three lists, of three tuples -/
theorem fp6 {z TI TO i1 i2 i3 c : Addr} (h : c ∈ [z, TI, TO, i1, i2, i3]) : c = z ∨ c = TI ∨ c = TO ∨ c = i1 ∨ c = i2 ∨ c = i3 := by simpa using h
theorem zip3T_len (c : Bool) : ∀ (xs ys zs : List T), (zip3T c xs ys zs).length = min xs.length (min ys.length zs.length)
  | [], _, _ => by simp [zip3T]
  | _ :: _, [], _ => by simp [zip3T]
  | _ :: _, _ :: _, [] => by simp [zip3T]
  | x :: xs, y :: ys, z :: zs => by simp [zip3T, zip3T_len c xs ys zs]
theorem zip3_get {c : Bool} : ∀ {xs ys zs : List T} {i : Nat} {t : T}, (zip3T c xs ys zs)[i]? = some t → ∃ x y z, xs[i]? = some x ∧ ys[i]? = some y ∧ zs[i]? = some z ∧ t = pairT c [x, y, z]
  | [], _, _, _, _, h => by simp [zip3T] at h
  | _ :: _, [], _, _, _, h => by simp [zip3T] at h
  | _ :: _, _ :: _, [], _, _, h => by simp [zip3T] at h
  | x :: xs, y :: ys, z :: zs, 0, t, h => by
    simp only [zip3T, List.getElem?_cons_zero, Option.some.injEq] at h
    exact ⟨x, y, z, rfl, rfl, rfl, h.symm⟩
  | x :: xs, y :: ys, z :: zs, i + 1, t, h => by
    simp only [zip3T, List.getElem?_cons_succ] at h
    obtain ⟨a, b, c, h1, h2, h3, h4⟩ := zip3_get h
    exact ⟨a, b, c, by simpa using h1, by simpa using h2, by simpa using h3, h4⟩
theorem zip_trip {G : Glb} {w : Wd} {vs us ws : List V} {ts rs qs : List T} {c0 c1 c2 : Bool} (ok : w.Ok G) (h : w.R0s G vs ts) (hc : c0 = true → w.RCs G vs ts) (h' : w.R0s G us rs) (hc' : c1 = true → w.RCs G us rs) (h'' : w.R0s G ws qs) (hc'' : c2 = true → w.RCs G ws qs) {i : Nat} {t : T} (ht : (zip3T (c0 && c1 && c2) ts rs qs)[i]? = some t) {w' : Wd} (e : Ev w w') (ok' : w'.Ok G) :
    ∃ v u x, vs[i]? = some v ∧ us[i]? = some u ∧ ws[i]? = some x ∧ ∀ p, w'.H p = none → ∃ w'', w''.H = upd w'.H p (.tup [v, u, x]) ∧ w''.st = w'.st ∧ Ev w' w'' ∧ w''.Ok G ∧ w''.R0 G (.ref p) t := by
  obtain ⟨x, y, z, hx, hy, hz, rfl⟩ := zip3_get ht
  obtain ⟨v, hv, r⟩ := h.get hx
  obtain ⟨u, hu, r'⟩ := h'.get hy
  obtain ⟨q, hq, r''⟩ := h''.get hz
  refine ⟨v, u, q, hv, hu, hq, fun p hp => pair_ok ok' hp (.cons (e.r0 ok r) (.cons (e.r0 ok r') (.cons (e.r0 ok r'') .nil))) fun g => ?_⟩
  rw [Bool.and_eq_true, Bool.and_eq_true] at g
  obtain ⟨v', hv', q1⟩ := (hc g.1.1).get hx
  obtain ⟨u', hu', q2⟩ := (hc' g.1.2).get hy
  obtain ⟨x', hx', q3⟩ := (hc'' g.2).get hz
  rw [hv] at hv'
  rw [hu] at hu'
  rw [hq] at hx'
  cases hv'
  cases hu'
  cases hx'
  exact .cons (e.rc ok q1) (.cons (e.rc ok q2) (.cons (e.rc ok q3) .nil))
def Itz3L (K : PySem.W.Frag) (a b c : Addr) : L2.It where
  go := fun i H => ∃ (xs ys zs : List V) (x y z : V), SqL K H a xs ∧ SqL K H b ys ∧ SqL K H c zs ∧ xs[i]? = some x ∧ ys[i]? = some y ∧ zs[i]? = some z
  yld := fun i H v H' => ∃ p x y z, v = .ref p ∧ H p = none ∧ H' = upd H p (.tup [x, y, z]) ∧ (∀ xs, SqL K H a xs → xs[i]? = some x) ∧ (∀ ys, SqL K H b ys → ys[i]? = some y) ∧ ∀ zs, SqL K H c zs → zs[i]? = some z
  stop := fun i H => ∃ xs ys zs : List V, SqL K H a xs ∧ SqL K H b ys ∧ SqL K H c zs ∧ (i ≤ xs.length ∧ i ≤ ys.length ∧ i ≤ zs.length) ∧ (i = xs.length ∨ i = ys.length ∨ i = zs.length)
def Tn3L (z TI TO i1 i2 i3 a b c : Addr) (i : Nat) (h : Heap) : Prop :=
  IsZip h z TI TO .none ∧ IsTupOf3 h TI (.ref i1) (.ref i2) (.ref i3) ∧ (∃ x y w, IsTupOf3 h TO x y w) ∧ h.IsListIter i1 a i ∧ h.IsListIter i2 b i ∧ h.IsListIter i3 c i
theorem turn_zip3L {P : Program} {w : World} {K : PySem.W.Frag} {elts : List Expr} {kk : Nat} {tpos : Pos} {a b c z TI TO i1 i2 i3 : Addr} (D : ZipSep3 z TI TO i1 i2 i3 [i1, a] [i2, b] [i3, c]) :
    Turn P w K (.Tuple elts kk tpos) (Itz3L K a b c) [z, TI, TO, i1, i2, i3] z (Tn3L z TI TO i1 i2 i3 a b c) where
  mem := by simp
  obj := by
    rintro i h ⟨hz, hTI, ⟨x, y, w, hTO⟩, ⟨o1, e1, _, d1⟩, ⟨o2, e2, _, d2⟩, ⟨o3, e3, _, d3⟩⟩ q hq
    rcases fp6 hq with rfl | rfl | rfl | rfl | rfl | rfl
    · exact ⟨_, hz, fun v q => nomatch q⟩
    · exact ⟨_, hTI, fun v q => nomatch q⟩
    · exact ⟨_, hTO, fun v q => nomatch q⟩
    · exact ⟨o1, e1, fun v q => by simp [d1] at q⟩
    · exact ⟨o2, e2, fun v q => by simp [d2] at q⟩
    · exact ⟨o3, e3, fun v q => by simp [d3] at q⟩
  keep := by
    rintro i h h' ⟨hz, hTI, ⟨x, y, w, hTO⟩, h1, h2, h3⟩ k
    have k' : ∀ q ∈ [z, TI, TO, i1, i2, i3], ∀ {o}, h.get? q = some o → h'.get? q = some o := fun q hq o e => k q hq o e
    exact ⟨k' z (by simp) hz, k' TI (by simp) hTI, ⟨x, y, w, k' TO (by simp) hTO⟩, h1.at fun o e => k' i1 (by simp) e, h2.at fun o e => k' i2 (by simp) e, h3.at fun o e => k' i3 (by simp) e⟩

  item := by
    rintro X rfl rfl rfl hc i pins s σ H E I hf ⟨hz, hTI, ⟨x0, y0, w0, hTO⟩, h1, h2, h3⟩ ⟨xs, ys, zs, x, y, zz, hqx, hqy, hqz, hx, hy, hzz⟩
    obtain ⟨its, rv, p1, _⟩ := I.list hqx
    obtain ⟨its2, rv2, p2, _⟩ := I.list hqy
    obtain ⟨its3, rv3, p3, _⟩ := I.list hqz
    have hh : X.A.in1.handled = none := I.ok.hd hc
    have t1 : s.heap.IsList a its.toArray := p1.isList
    have n1 : a ≠ i1 := fun e => by
      subst e
      obtain ⟨o1, e1, c1, _⟩ := h1
      obtain ⟨o2, e2, c2, _⟩ := t1
      rw [e1] at e2
      cases e2
      rw [c1] at c2
      exact absurd c2 (by decide)
    have D1 := Draws.list (prog := X.prog) (w := X.w) hh i1 a n1 its.toArray
    have t2 : s.heap.IsList b its2.toArray := p2.isList
    have n2 : b ≠ i2 := fun e => by
      subst e
      obtain ⟨o1, e1, c1, _⟩ := h2
      obtain ⟨o2, e2, c2, _⟩ := t2
      rw [e1] at e2
      cases e2
      rw [c1] at c2
      exact absurd c2 (by decide)
    have D2 := Draws.list (prog := X.prog) (w := X.w) hh i2 b n2 its2.toArray
    have t3 : s.heap.IsList c its3.toArray := p3.isList
    have n3 : c ≠ i3 := fun e => by
      subst e
      obtain ⟨o1, e1, c1, _⟩ := h3
      obtain ⟨o2, e2, c2, _⟩ := t3
      rw [e1] at e2
      cases e2
      rw [c1] at c2
      exact absurd c2 (by decide)
    have D3 := Draws.list (prog := X.prog) (w := X.w) hh i3 c n3 its3.toArray
    obtain ⟨u, hu, ru⟩ := rv.get hx
    obtain ⟨u2, hu2, ru2⟩ := rv2.get hy
    obtain ⟨u3, hu3, ru3⟩ := rv3.get hzz
    have zl := Heap.lt_size hz
    have l1 : i < its.toArray.size := (List.getElem?_eq_some_iff.mp hu).1
    have l2 : i < its2.toArray.size := (List.getElem?_eq_some_iff.mp hu2).1
    have l3 : i < its3.toArray.size := (List.getElem?_eq_some_iff.mp hu3).1
    refine wpAny_pyNext_zipD3_item D D1 D2 D3 hz hTI hTO ⟨h1, t1⟩ ⟨h2, t2⟩ ⟨h3, t3⟩ l1 l2 l3 fun x1 x2 x3 h' tk q1 q2 q3 z' TO' g1 g2 g3 hT hsz hk => ?_
    have ex1 : x1 = u := by
      have : its.toArray[i]? = some u := by simpa using hu
      rw [q1] at this
      exact Option.some.inj this
    have ex2 : x2 = u2 := by
      have : its2.toArray[i]? = some u2 := by simpa using hu2
      rw [q2] at this
      exact Option.some.inj this
    have ex3 : x3 = u3 := by
      have : its3.toArray[i]? = some u3 := by simpa using hu3
      rw [q3] at this
      exact Option.some.inj this
    subst ex1 ex2 ex3
    refine ⟨_, rfl, wpAny_letOwnedTupleGo_zip (s := { s with heap := h', toks := tk }) z' fun h'' z'' sb => ?_⟩
    have gT : h''.get? s.heap.objs.size = some { cls := .type "tuple", data := .seq #[x1, x2, x3] } := (sb.2 _ (Nat.ne_of_gt zl)).trans hT
    have nw : ObjOk X.prog X.w (upd H s.heap.objs.size (.tup [x, y, zz])) h'' s.heap.objs.size (.tup [x, y, zz]) :=
      ⟨by show 3 ≤ sizeLine; decide, [x1, x2, x3], .cons ru (.cons ru2 (.cons ru3 .nil)), ⟨_, gT, rfl, _, rfl⟩⟩
    have ne5 : ∀ {q : Addr}, q ∉ [z, TI, TO, i1, i2, i3] → q ≠ z ∧ q ≠ TO ∧ q ≠ i1 ∧ q ≠ i2 ∧ q ≠ i3 := fun {q} hn => ⟨fun e => hn (by simp [e]), fun e => hn (by simp [e]), fun e => hn (by simp [e]), fun e => hn (by simp [e]), fun e => hn (by simp [e])⟩
    have J : Inv X pins σ (upd H s.heap.objs.size (.tup [x, y, zz])) { s with heap := h'', toks := tk } :=
      I.turnedNew (t' := tk) (ch := [z, TI, TO, i1, i2, i3]) (fun q o hb e => by
        obtain ⟨m1, m2, m3, m4, m5⟩ := ne5 hb
        exact (sb.2 q m1).trans (hk q o m1 m2 m3 m4 m5 e)) hf (Nat.le_refl _) nw
    have up : ∀ {q : Addr} {o : Obj}, q ≠ z → h'.get? q = some o → h''.get? q = some o := fun {q o} hn e => (sb.2 q hn).trans e
    refine ⟨.ref s.heap.objs.size, _, J, rfl, ⟨_, x, y, zz, rfl, I.hok.fresh (Nat.le_refl _), rfl, fun l hl => by rw [I.list_inj hl hqx]; exact hx, fun l hl => by rw [I.list_inj hl hqy]; exact hy, fun l hl => by rw [I.list_inj hl hqz]; exact hzz⟩,
      ⟨z'', up D.TIz (hk _ _ D.TIz D.TITO D.TIi1 D.TIi2 D.TIi3 hTI), ⟨x1, x2, x3, up D.TOz TO'⟩, g1.1.at fun o e => up D.zi1.symm e, g2.1.at fun o e => up D.zi2.symm e, g3.1.at fun o e => up D.zi3.symm e⟩, fun q hcm => ?_⟩
    have lt : q < s.heap.objs.size := by
      rcases fp6 hcm with rfl | rfl | rfl | rfl | rfl | rfl
      · exact zl
      · exact Heap.lt_size hTI
      · exact Heap.lt_size hTO
      · obtain ⟨_, e1, _⟩ := h1; exact Heap.lt_size e1
      · obtain ⟨_, e2, _⟩ := h2; exact Heap.lt_size e2
      · obtain ⟨_, e3, _⟩ := h3; exact Heap.lt_size e3
    rw [upd_ne (Nat.ne_of_lt lt)]
    exact (hf q hcm).1
  done := by
    rintro X rfl rfl rfl hc i pins s σ H E I hf ⟨hz, hTI, ⟨x0, y0, w0, hTO⟩, h1, h2, h3⟩ ⟨xs, ys, zs, hqx, hqy, hqz, ⟨le1, le2, le3⟩, hend⟩
    obtain ⟨its, rv, p1, _⟩ := I.list hqx
    obtain ⟨its2, rv2, p2, _⟩ := I.list hqy
    obtain ⟨its3, rv3, p3, _⟩ := I.list hqz
    have hh : X.A.in1.handled = none := I.ok.hd hc
    have t1 : s.heap.IsList a its.toArray := p1.isList
    have n1 : a ≠ i1 := fun e => by
      subst e
      obtain ⟨o1, e1, c1, _⟩ := h1
      obtain ⟨o2, e2, c2, _⟩ := t1
      rw [e1] at e2
      cases e2
      rw [c1] at c2
      exact absurd c2 (by decide)
    have D1 := Draws.list (prog := X.prog) (w := X.w) hh i1 a n1 its.toArray
    have t2 : s.heap.IsList b its2.toArray := p2.isList
    have n2 : b ≠ i2 := fun e => by
      subst e
      obtain ⟨o1, e1, c1, _⟩ := h2
      obtain ⟨o2, e2, c2, _⟩ := t2
      rw [e1] at e2
      cases e2
      rw [c1] at c2
      exact absurd c2 (by decide)
    have D2 := Draws.list (prog := X.prog) (w := X.w) hh i2 b n2 its2.toArray
    have t3 : s.heap.IsList c its3.toArray := p3.isList
    have n3 : c ≠ i3 := fun e => by
      subst e
      obtain ⟨o1, e1, c1, _⟩ := h3
      obtain ⟨o2, e2, c2, _⟩ := t3
      rw [e1] at e2
      cases e2
      rw [c1] at c2
      exact absurd c2 (by decide)
    have D3 := Draws.list (prog := X.prog) (w := X.w) hh i3 c n3 its3.toArray
    have m1 := rv.length
    have m2 := rv2.length
    have m3 := rv3.length
    refine wpAny_pyNext_zipD3_end D D1 D2 D3 hz hTI hTO ⟨h1, t1⟩ ⟨h2, t2⟩ ⟨h3, t3⟩ (i := i) (by simp; omega) (by simp; omega) (by simp; omega) (by simp; omega) fun h' tk hk => ⟨rfl, ?_⟩
    exact I.turnedL (t' := tk) (ch := [z, TI, TO, i1, i2, i3]) (fun q o hb e => hk q o (fun g => hb (by simp [g])) (fun g => hb (by simp [g])) (fun g => hb (by simp [g])) (fun g => hb (by simp [g])) (fun g => hb (by simp [g])) e) hf
  self := fun A i s Q E st h => wpAny_pyIter_zip st.1 h
theorem wk_zip3L {G : Glb} {w : Wd} {a b c : Addr} {vs us ws : List V} {ts rs qs : List T} {c0 c1 c2 : Bool} (ok : w.Ok G) (s : ∀ w', Ev w w' → w'.Ok G → SqL G.K w'.H a vs) (s' : ∀ w', Ev w w' → w'.Ok G → SqL G.K w'.H b us) (s'' : ∀ w', Ev w w' → w'.Ok G → SqL G.K w'.H c ws)
    (h : w.R0s G vs ts) (hc : c0 = true → w.RCs G vs ts) (h' : w.R0s G us rs) (hc' : c1 = true → w.RCs G us rs) (h'' : w.R0s G ws qs) (hc'' : c2 = true → w.RCs G ws qs) :
    Wk G (Itz3L G.K a b c) w (zip3T (c0 && c1 && c2) ts rs qs) := by
  refine ⟨fun w' e ok' => ⟨vs, us, ws, s w' e ok', s' w' e ok', s'' w' e ok', ?_⟩, fun w' i t e ok' ht => ?_⟩
  · have m1 := h.length
    have m2 := h'.length
    have m3 := h''.length
    have m4 := zip3T_len (c0 && c1 && c2) ts rs qs
    rw [m1, m2, m3, m4]
    omega
  · obtain ⟨v, u, x, hv, hu, hx, k⟩ := zip_trip ok h hc h' hc' h'' hc'' ht e ok'
    refine ⟨⟨vs, us, ws, v, u, x, s w' e ok', s' w' e ok', s'' w' e ok', hv, hu, hx⟩, ?_⟩
    rintro x' H' ⟨p, x0, y0, z0, rfl, hp, rfl, gx, gy, gz⟩
    have q1 := (gx vs (s w' e ok')).symm.trans hv
    have q2 := (gy us (s' w' e ok')).symm.trans hu
    have q3 := (gz ws (s'' w' e ok')).symm.trans hx
    cases q1
    cases q2
    cases q3
    exact k p hp
def Itz3T (K : PySem.W.Frag) (a b c : Addr) : L2.It where
  go := fun i H => ∃ (xs ys zs : List V) (x y z : V), SqT K H a xs ∧ SqT K H b ys ∧ SqT K H c zs ∧ xs[i]? = some x ∧ ys[i]? = some y ∧ zs[i]? = some z
  yld := fun i H v H' => ∃ p x y z, v = .ref p ∧ H p = none ∧ H' = upd H p (.tup [x, y, z]) ∧ (∀ xs, SqT K H a xs → xs[i]? = some x) ∧ (∀ ys, SqT K H b ys → ys[i]? = some y) ∧ ∀ zs, SqT K H c zs → zs[i]? = some z
  stop := fun i H => ∃ xs ys zs : List V, SqT K H a xs ∧ SqT K H b ys ∧ SqT K H c zs ∧ (i ≤ xs.length ∧ i ≤ ys.length ∧ i ≤ zs.length) ∧ (i = xs.length ∨ i = ys.length ∨ i = zs.length)
def Tn3T (z TI TO i1 i2 i3 a b c : Addr) (i : Nat) (h : Heap) : Prop :=
  IsZip h z TI TO .none ∧ IsTupOf3 h TI (.ref i1) (.ref i2) (.ref i3) ∧ (∃ x y w, IsTupOf3 h TO x y w) ∧ h.IsTupleIter i1 a i ∧ h.IsTupleIter i2 b i ∧ h.IsTupleIter i3 c i
theorem turn_zip3T {P : Program} {w : World} {K : PySem.W.Frag} {elts : List Expr} {kk : Nat} {tpos : Pos} {a b c z TI TO i1 i2 i3 : Addr} (D : ZipSep3 z TI TO i1 i2 i3 [i1, a] [i2, b] [i3, c]) :
    Turn P w K (.Tuple elts kk tpos) (Itz3T K a b c) [z, TI, TO, i1, i2, i3] z (Tn3T z TI TO i1 i2 i3 a b c) where
  mem := by simp
  obj := by
    rintro i h ⟨hz, hTI, ⟨x, y, w, hTO⟩, ⟨o1, e1, _, d1⟩, ⟨o2, e2, _, d2⟩, ⟨o3, e3, _, d3⟩⟩ q hq
    rcases fp6 hq with rfl | rfl | rfl | rfl | rfl | rfl
    · exact ⟨_, hz, fun v q => nomatch q⟩
    · exact ⟨_, hTI, fun v q => nomatch q⟩
    · exact ⟨_, hTO, fun v q => nomatch q⟩
    · exact ⟨o1, e1, fun v q => by simp [d1] at q⟩
    · exact ⟨o2, e2, fun v q => by simp [d2] at q⟩
    · exact ⟨o3, e3, fun v q => by simp [d3] at q⟩
  keep := by
    rintro i h h' ⟨hz, hTI, ⟨x, y, w, hTO⟩, h1, h2, h3⟩ k
    have k' : ∀ q ∈ [z, TI, TO, i1, i2, i3], ∀ {o}, h.get? q = some o → h'.get? q = some o := fun q hq o e => k q hq o e
    exact ⟨k' z (by simp) hz, k' TI (by simp) hTI, ⟨x, y, w, k' TO (by simp) hTO⟩, h1.at fun o e => k' i1 (by simp) e, h2.at fun o e => k' i2 (by simp) e, h3.at fun o e => k' i3 (by simp) e⟩

  item := by
    rintro X rfl rfl rfl hc i pins s σ H E I hf ⟨hz, hTI, ⟨x0, y0, w0, hTO⟩, h1, h2, h3⟩ ⟨xs, ys, zs, x, y, zz, hqx, hqy, hqz, hx, hy, hzz⟩
    obtain ⟨its, rv, p1, _⟩ := I.tuple hqx
    obtain ⟨its2, rv2, p2, _⟩ := I.tuple hqy
    obtain ⟨its3, rv3, p3, _⟩ := I.tuple hqz
    have hh : X.A.in1.handled = none := I.ok.hd hc
    have t1 : s.heap.IsTuple a its.toArray := (show s.heap.IsTuple a its.toArray from p1)
    have n1 : a ≠ i1 := fun e => by
      subst e
      obtain ⟨o1, e1, c1, _⟩ := h1
      obtain ⟨o2, e2, c2, _⟩ := t1
      rw [e1] at e2
      cases e2
      rw [c1] at c2
      exact absurd c2 (by decide)
    have D1 := Draws.tuple (prog := X.prog) (w := X.w) hh i1 a n1 its.toArray
    have t2 : s.heap.IsTuple b its2.toArray := (show s.heap.IsTuple b its2.toArray from p2)
    have n2 : b ≠ i2 := fun e => by
      subst e
      obtain ⟨o1, e1, c1, _⟩ := h2
      obtain ⟨o2, e2, c2, _⟩ := t2
      rw [e1] at e2
      cases e2
      rw [c1] at c2
      exact absurd c2 (by decide)
    have D2 := Draws.tuple (prog := X.prog) (w := X.w) hh i2 b n2 its2.toArray
    have t3 : s.heap.IsTuple c its3.toArray := (show s.heap.IsTuple c its3.toArray from p3)
    have n3 : c ≠ i3 := fun e => by
      subst e
      obtain ⟨o1, e1, c1, _⟩ := h3
      obtain ⟨o2, e2, c2, _⟩ := t3
      rw [e1] at e2
      cases e2
      rw [c1] at c2
      exact absurd c2 (by decide)
    have D3 := Draws.tuple (prog := X.prog) (w := X.w) hh i3 c n3 its3.toArray
    obtain ⟨u, hu, ru⟩ := rv.get hx
    obtain ⟨u2, hu2, ru2⟩ := rv2.get hy
    obtain ⟨u3, hu3, ru3⟩ := rv3.get hzz
    have zl := Heap.lt_size hz
    have l1 : i < its.toArray.size := (List.getElem?_eq_some_iff.mp hu).1
    have l2 : i < its2.toArray.size := (List.getElem?_eq_some_iff.mp hu2).1
    have l3 : i < its3.toArray.size := (List.getElem?_eq_some_iff.mp hu3).1
    refine wpAny_pyNext_zipD3_item D D1 D2 D3 hz hTI hTO ⟨h1, t1⟩ ⟨h2, t2⟩ ⟨h3, t3⟩ l1 l2 l3 fun x1 x2 x3 h' tk q1 q2 q3 z' TO' g1 g2 g3 hT hsz hk => ?_
    have ex1 : x1 = u := by
      have : its.toArray[i]? = some u := by simpa using hu
      rw [q1] at this
      exact Option.some.inj this
    have ex2 : x2 = u2 := by
      have : its2.toArray[i]? = some u2 := by simpa using hu2
      rw [q2] at this
      exact Option.some.inj this
    have ex3 : x3 = u3 := by
      have : its3.toArray[i]? = some u3 := by simpa using hu3
      rw [q3] at this
      exact Option.some.inj this
    subst ex1 ex2 ex3
    refine ⟨_, rfl, wpAny_letOwnedTupleGo_zip (s := { s with heap := h', toks := tk }) z' fun h'' z'' sb => ?_⟩
    have gT : h''.get? s.heap.objs.size = some { cls := .type "tuple", data := .seq #[x1, x2, x3] } := (sb.2 _ (Nat.ne_of_gt zl)).trans hT
    have nw : ObjOk X.prog X.w (upd H s.heap.objs.size (.tup [x, y, zz])) h'' s.heap.objs.size (.tup [x, y, zz]) :=
      ⟨by show 3 ≤ sizeLine; decide, [x1, x2, x3], .cons ru (.cons ru2 (.cons ru3 .nil)), ⟨_, gT, rfl, _, rfl⟩⟩
    have ne5 : ∀ {q : Addr}, q ∉ [z, TI, TO, i1, i2, i3] → q ≠ z ∧ q ≠ TO ∧ q ≠ i1 ∧ q ≠ i2 ∧ q ≠ i3 := fun {q} hn => ⟨fun e => hn (by simp [e]), fun e => hn (by simp [e]), fun e => hn (by simp [e]), fun e => hn (by simp [e]), fun e => hn (by simp [e])⟩
    have J : Inv X pins σ (upd H s.heap.objs.size (.tup [x, y, zz])) { s with heap := h'', toks := tk } :=
      I.turnedNew (t' := tk) (ch := [z, TI, TO, i1, i2, i3]) (fun q o hb e => by
        obtain ⟨m1, m2, m3, m4, m5⟩ := ne5 hb
        exact (sb.2 q m1).trans (hk q o m1 m2 m3 m4 m5 e)) hf (Nat.le_refl _) nw
    have up : ∀ {q : Addr} {o : Obj}, q ≠ z → h'.get? q = some o → h''.get? q = some o := fun {q o} hn e => (sb.2 q hn).trans e
    refine ⟨.ref s.heap.objs.size, _, J, rfl, ⟨_, x, y, zz, rfl, I.hok.fresh (Nat.le_refl _), rfl, fun l hl => by rw [I.tuple_inj hl hqx]; exact hx, fun l hl => by rw [I.tuple_inj hl hqy]; exact hy, fun l hl => by rw [I.tuple_inj hl hqz]; exact hzz⟩,
      ⟨z'', up D.TIz (hk _ _ D.TIz D.TITO D.TIi1 D.TIi2 D.TIi3 hTI), ⟨x1, x2, x3, up D.TOz TO'⟩, g1.1.at fun o e => up D.zi1.symm e, g2.1.at fun o e => up D.zi2.symm e, g3.1.at fun o e => up D.zi3.symm e⟩, fun q hcm => ?_⟩
    have lt : q < s.heap.objs.size := by
      rcases fp6 hcm with rfl | rfl | rfl | rfl | rfl | rfl
      · exact zl
      · exact Heap.lt_size hTI
      · exact Heap.lt_size hTO
      · obtain ⟨_, e1, _⟩ := h1; exact Heap.lt_size e1
      · obtain ⟨_, e2, _⟩ := h2; exact Heap.lt_size e2
      · obtain ⟨_, e3, _⟩ := h3; exact Heap.lt_size e3
    rw [upd_ne (Nat.ne_of_lt lt)]
    exact (hf q hcm).1
  done := by
    rintro X rfl rfl rfl hc i pins s σ H E I hf ⟨hz, hTI, ⟨x0, y0, w0, hTO⟩, h1, h2, h3⟩ ⟨xs, ys, zs, hqx, hqy, hqz, ⟨le1, le2, le3⟩, hend⟩
    obtain ⟨its, rv, p1, _⟩ := I.tuple hqx
    obtain ⟨its2, rv2, p2, _⟩ := I.tuple hqy
    obtain ⟨its3, rv3, p3, _⟩ := I.tuple hqz
    have hh : X.A.in1.handled = none := I.ok.hd hc
    have t1 : s.heap.IsTuple a its.toArray := (show s.heap.IsTuple a its.toArray from p1)
    have n1 : a ≠ i1 := fun e => by
      subst e
      obtain ⟨o1, e1, c1, _⟩ := h1
      obtain ⟨o2, e2, c2, _⟩ := t1
      rw [e1] at e2
      cases e2
      rw [c1] at c2
      exact absurd c2 (by decide)
    have D1 := Draws.tuple (prog := X.prog) (w := X.w) hh i1 a n1 its.toArray
    have t2 : s.heap.IsTuple b its2.toArray := (show s.heap.IsTuple b its2.toArray from p2)
    have n2 : b ≠ i2 := fun e => by
      subst e
      obtain ⟨o1, e1, c1, _⟩ := h2
      obtain ⟨o2, e2, c2, _⟩ := t2
      rw [e1] at e2
      cases e2
      rw [c1] at c2
      exact absurd c2 (by decide)
    have D2 := Draws.tuple (prog := X.prog) (w := X.w) hh i2 b n2 its2.toArray
    have t3 : s.heap.IsTuple c its3.toArray := (show s.heap.IsTuple c its3.toArray from p3)
    have n3 : c ≠ i3 := fun e => by
      subst e
      obtain ⟨o1, e1, c1, _⟩ := h3
      obtain ⟨o2, e2, c2, _⟩ := t3
      rw [e1] at e2
      cases e2
      rw [c1] at c2
      exact absurd c2 (by decide)
    have D3 := Draws.tuple (prog := X.prog) (w := X.w) hh i3 c n3 its3.toArray
    have m1 := rv.length
    have m2 := rv2.length
    have m3 := rv3.length
    refine wpAny_pyNext_zipD3_end D D1 D2 D3 hz hTI hTO ⟨h1, t1⟩ ⟨h2, t2⟩ ⟨h3, t3⟩ (i := i) (by simp; omega) (by simp; omega) (by simp; omega) (by simp; omega) fun h' tk hk => ⟨rfl, ?_⟩
    exact I.turnedL (t' := tk) (ch := [z, TI, TO, i1, i2, i3]) (fun q o hb e => hk q o (fun g => hb (by simp [g])) (fun g => hb (by simp [g])) (fun g => hb (by simp [g])) (fun g => hb (by simp [g])) (fun g => hb (by simp [g])) e) hf
  self := fun A i s Q E st h => wpAny_pyIter_zip st.1 h
theorem wk_zip3T {G : Glb} {w : Wd} {a b c : Addr} {vs us ws : List V} {ts rs qs : List T} {c0 c1 c2 : Bool} (ok : w.Ok G) (s : ∀ w', Ev w w' → w'.Ok G → SqT G.K w'.H a vs) (s' : ∀ w', Ev w w' → w'.Ok G → SqT G.K w'.H b us) (s'' : ∀ w', Ev w w' → w'.Ok G → SqT G.K w'.H c ws)
    (h : w.R0s G vs ts) (hc : c0 = true → w.RCs G vs ts) (h' : w.R0s G us rs) (hc' : c1 = true → w.RCs G us rs) (h'' : w.R0s G ws qs) (hc'' : c2 = true → w.RCs G ws qs) :
    Wk G (Itz3T G.K a b c) w (zip3T (c0 && c1 && c2) ts rs qs) := by
  refine ⟨fun w' e ok' => ⟨vs, us, ws, s w' e ok', s' w' e ok', s'' w' e ok', ?_⟩, fun w' i t e ok' ht => ?_⟩
  · have m1 := h.length
    have m2 := h'.length
    have m3 := h''.length
    have m4 := zip3T_len (c0 && c1 && c2) ts rs qs
    rw [m1, m2, m3, m4]
    omega
  · obtain ⟨v, u, x, hv, hu, hx, k⟩ := zip_trip ok h hc h' hc' h'' hc'' ht e ok'
    refine ⟨⟨vs, us, ws, v, u, x, s w' e ok', s' w' e ok', s'' w' e ok', hv, hu, hx⟩, ?_⟩
    rintro x' H' ⟨p, x0, y0, z0, rfl, hp, rfl, gx, gy, gz⟩
    have q1 := (gx vs (s w' e ok')).symm.trans hv
    have q2 := (gy us (s' w' e ok')).symm.trans hu
    have q3 := (gz ws (s'' w' e ok')).symm.trans hx
    cases q1
    cases q2
    cases q3
    exact k p hp
theorem pi_zip3 {X : Cx} {e e2 e3 : Expr} {ta : TA} {p pos tpos : Pos} {elts : List Expr} {kk : Nat} (hg : Gl X "zip") (hm : X.mg "zip" = none) (ha : PA X [e, e2, e3] ta)
    (hs : starEach [e, e2, e3] X.env = (false, eval e X.env) :: starEach [e2, e3] X.env) (hpl : (backTo pos (starEach [e2, e3] X.env)).any (·.1) = false) :
    PI X (.Tuple elts kk tpos) (.Call (.Name "zip" p) [e, e2, e3] [] pos) (fun σ H R => ta σ H fun vs H1 => ∃ a b c xs ys zs, vs = [.ref a, .ref b, .ref c] ∧
      ((SqL X.K H1 a xs ∧ SqL X.K H1 b ys ∧ SqL X.K H1 c zs ∧ R (Itz3L X.K a b c) H1) ∨ (SqT X.K H1 a xs ∧ SqT X.K H1 b ys ∧ SqT X.K H1 c zs ∧ R (Itz3T X.K a b c) H1))) := by
  constructor
  intro pins s σ H R I h
  refine Call_ (ld_blt I hg hm PyProof.Rows.boot_zip (PyProof.Rows.callWith_type1 (thn (ha.run pos pins s σ H _ I h) ?_) hs hpl))
  rintro us s1 ⟨vs, H1, I1, r1, a, b, c, xs, ys, zs, rfl, q⟩
  have hus : us = [Value.ref a, Value.ref b, Value.ref c] := by
    cases r1 with
    | cons r1 t1 => cases t1 with
      | cons r2 t2 => cases t2 with
        | cons r3 t3 => cases t3; cases r1; cases r2; cases r3; rfl
  subst hus
  have fr : ∀ q ∈ [s1.heap.objs.size + 5, s1.heap.objs.size + 3, s1.heap.objs.size + 4, s1.heap.objs.size, s1.heap.objs.size + 1, s1.heap.objs.size + 2], FpOk X pins H1 q := fun q hq => by
    have : @LE.le Nat _ s1.heap.objs.size q := by
      rcases fp6 hq with e | e | e | e | e | e <;> (rw [e]; omega)
    exact I1.fpOk this (I1.hok.fresh this)
  have N : ∀ {x y : Nat}, x < y → ¬ x = y := fun h e => by omega
  have N' : ∀ {x y : Nat}, y < x → ¬ x = y := fun h e => by omega
  have sep : ∀ n a b c : Nat, a < n → b < n → c < n → ZipSep3 (n + 5) (n + 3) (n + 4) n (n + 1) (n + 2) [n, a] [n + 1, b] [n + 2, c] := fun n a b c la lb lc => by
    refine ⟨N (by omega), N (by omega), N (by omega), N' (by omega), by simp, ?_, ?_, N' (by omega), by simp, ?_, ?_, N' (by omega), by simp, ?_, ?_, ?_, ?_, ?_, ?_, ?_, ?_⟩
    all_goals
      simp only [List.mem_cons, List.not_mem_nil, or_false, not_or]
      exact ⟨by first | exact N (by omega) | exact N' (by omega), by first | exact N (by omega) | exact N' (by omega)⟩
  rcases q with ⟨hqx, hqy, hqz, q⟩ | ⟨hqx, hqy, hqz, q⟩
  · obtain ⟨its, rv, p1, _⟩ := I1.list hqx
    obtain ⟨its2, rv2, p2, _⟩ := I1.list hqy
    obtain ⟨its3, rv3, p3, _⟩ := I1.list hqz
    refine zip_begins3 (begins_list a its.toArray) (begins_list b its2.toArray) (begins_list c its3.toArray) p1.isList p2.isList p3.isList fun h' hz hTI hTO g1 g2 g3 hsz hk => wpAny_pyIter_zip hz ?_
    exact ⟨s1.heap.objs.size + 5, _, _, Itz3L X.K a b c, H1, rfl, I1.kept (t' := s1.toks) hk, turn_zip3L (sep _ a b c p1.lt p2.lt p3.lt), ⟨hz, hTI, ⟨_, _, _, hTO⟩, ⟨_, g1, rfl, rfl⟩, ⟨_, g2, rfl, rfl⟩, ⟨_, g3, rfl, rfl⟩⟩, fr, q⟩
  · obtain ⟨its, rv, p1, _⟩ := I1.tuple hqx
    obtain ⟨its2, rv2, p2, _⟩ := I1.tuple hqy
    obtain ⟨its3, rv3, p3, _⟩ := I1.tuple hqz
    have t1 : s1.heap.IsTuple a its.toArray := p1
    have t2 : s1.heap.IsTuple b its2.toArray := p2
    have t3 : s1.heap.IsTuple c its3.toArray := p3
    have lts : ∀ {q : Addr} {is : Array Value}, s1.heap.IsTuple q is → @LT.lt Nat _ q s1.heap.objs.size := fun ⟨o, e, _⟩ => Heap.lt_size e
    refine zip_begins3 (begins_tuple a its.toArray) (begins_tuple b its2.toArray) (begins_tuple c its3.toArray) t1 t2 t3 fun h' hz hTI hTO g1 g2 g3 hsz hk => wpAny_pyIter_zip hz ?_
    exact ⟨s1.heap.objs.size + 5, _, _, Itz3T X.K a b c, H1, rfl, I1.kept (t' := s1.toks) hk, turn_zip3T (sep _ a b c (lts t1) (lts t2) (lts t3)), ⟨hz, hTI, ⟨_, _, _, hTO⟩, ⟨_, g1, rfl, rfl⟩, ⟨_, g2, rfl, rfl⟩, ⟨_, g3, rfl, rfl⟩⟩, fr, q⟩
end PC
namespace PC
open PySem PySem.Spec PyProof.Rows L2
variable {G : Glb} {P : Prog} {tb : Tab} {n : Nat}
/-! ### iterators -/
def PostI (G : Glb) (W : WX) (w : Wd) (σ : L2.St) (out : R (List T × List Nat)) (Q : L2.It → Hp → Prop) : Prop := match out with
  | .ok p st' => ∀ J w', w'.st = st' → Ev w w' → w'.Ok G → Wk G J w' p.1 → (∀ k ∈ p.2, ∀ a, w'.r[k]? = some a → Live w a ∨ w.H a = none) → Q J w'.H
  | .exc c st' => ∀ w', w'.st = st' → Ev w w' → w'.Ok G → W (.ref (G.cls c)) none σ w'.H
  | .bad => False
def tIv (G : Glb) (W : WX) (ev : Slots → Store → R (List T × List Nat)) : TI := fun σ H Q => ∃ w sl, w.H = H ∧ w.Ok G ∧ SlotR G w σ sl ∧ PostI G W w σ (ev sl w.st) Q
theorem PI.imp {X : Cx} {tg e : Expr} {t t' : TI} (h : PI X tg e t) (i : ∀ σ H Q, t' σ H Q → t σ H Q) : PI X tg e t' := ⟨fun pins s σ H Q I q => h.run pins s σ H Q I (i σ H Q q)⟩
theorem PostI.bind {W : WX} {w w1 : Wd} {σ : L2.St} {sl : Slots} {ev : Slots → Store → R T} {f : T → Store → R (List T × List Nat)} {Q : L2.It → Hp → Prop} {Q1 : VK} (e1 : Ev w w1) (h : PostI G W w σ ((ev sl w1.st).bind f) Q) (ok : w1.Ok G) (hs : SlotR G w1 σ sl)
    (k : ∀ x st2 v w2 F, PostI G W w σ (f x st2) Q → w2.st = st2 → Ev w1 w2 → w2.Ok G → w2.RO G v x F → Own w1 w2 F → Q1 v w2.H) : tEv G W ev σ w1.H Q1 := by
  refine ⟨w1, sl, rfl, ok, hs, ?_⟩
  cases q : ev sl w1.st with
  | ok x st2 =>
    rw [q] at h
    exact fun v w2 F a b c d e => k x st2 v w2 F h a b c d e
  | exc c st2 =>
    rw [q] at h
    exact fun w2 a b c => h w2 a (e1.trans b) c
  | bad =>
    rw [q] at h
    exact h
theorem strIt {X : Cx} {tg : Expr} {pins : List (Addr × Obj)} {s1 : Shared} {σ : L2.St} {H1 : Hp} {R : L2.It → Hp → Prop} {z : Str} {v : Value} (I1 : Inv X pins σ H1 s1) (r1 : RelV (.str z) v) (q : R (Its z) H1) :
    wpAny (model X.prog X.w) X.A (pyIter v) (PIE X pins σ tg R) X.xe s1 := by
  obtain ⟨t, rfl⟩ := r1
  cases ha : z.cps.all (· < 128)
  · exact wpAny_pyIter_wide ha (pi_one (tk := s1.toks) I1 _ (turn_str _ z t "str_iterator" (.inr rfl)) ⟨_, Heap.get?_push_size _ rfl, rfl, rfl⟩ q)
  · exact wpAny_pyIter_ascii ha (pi_one (tk := s1.toks) I1 _ (turn_str _ z t "str_ascii_iterator" (.inl rfl)) ⟨_, Heap.get?_push_size _ rfl, rfl, rfl⟩ q)
theorem seqIt {X : Cx} {tg : Expr} {pins : List (Addr × Obj)} {s1 : Shared} {σ : L2.St} {H1 : Hp} {R : L2.It → Hp → Prop} {x : V} {v : Value} (I1 : Inv X pins σ H1 s1) (r1 : RelV x v) (q1 : ∃ a, x = .ref a ∧ (((∃ xs, SqL X.K H1 a xs) ∧ R (Itl X.K a) H1) ∨ ((∃ xs, SqT X.K H1 a xs) ∧ R (Itt X.K a) H1))) :
    wpAny (model X.prog X.w) X.A (pyIter v) (PIE X pins σ tg R) X.xe s1 := by
  obtain ⟨a, e, q1⟩ := q1
  subst e
  cases r1
  have fresh : ∀ b ∈ [s1.heap.objs.size], FpOk X pins H1 b := fun b hb => by
    have e : b = s1.heap.objs.size := by simpa using hb
    subst e
    exact I1.fpOk (Nat.le_refl _) (I1.hok.fresh (Nat.le_refl _))
  rcases q1 with ⟨⟨xs, hq⟩, q⟩ | ⟨⟨xs, hq⟩, q⟩
  · obtain ⟨its, rv, p, hz⟩ := I1.list hq
    refine wpAny_pyIter_list p.isList ?_
    exact ⟨s1.heap.objs.size, [s1.heap.objs.size], _, _, H1, rfl, I1.kept (t' := s1.toks) fun b o e => Heap.get?_push_of_some _ e, turn_list a _, ⟨_, Heap.get?_push_size _ rfl, rfl, rfl⟩, fresh, q⟩
  · obtain ⟨its, rv, p, hz⟩ := I1.tuple hq
    refine wpAny_pyIter_tuple (show s1.heap.IsTuple a its.toArray from p) ?_
    exact ⟨s1.heap.objs.size, [s1.heap.objs.size], _, _, H1, rfl, I1.kept (t' := s1.toks) fun b o e => Heap.get?_push_of_some _ e, turn_tuple a _, ⟨_, Heap.get?_push_size _ rfl, rfl, rfl⟩, fresh, q⟩
section
variable (G : Glb) (P : Prog) (tb : Tab) (n : Nat)
def SI (it : It) : Prop := ∀ (X : Cx) (sc : Scope) (W : WX) (p tg : Expr), Ctx G P tb n X sc W → mI tb X.N sc it p tg = true → PI X tg p (tIv G W (evIt P (callN P n) it)) ∧ plainB p = true
end
theorem locks {w w1 w2 : Wd} {ks : List Nat} (e : Ev w w1) (h : ∀ k ∈ ks, ∀ a, w2.r[k]? = some a → Live w1 a) : ∀ k ∈ ks, ∀ a, w2.r[k]? = some a → Live w a ∨ w.H a = none := fun k hk a ha => e.live a (h k hk a ha)
theorem wk_str {w : Wd} (z : Str) : Wk G (Its z) w (charsT z) := by
  refine ⟨fun w' e ok' => by simp [charsT, Its], fun w' i t e ok' ht => ?_⟩
  simp only [charsT, List.getElem?_map, Array.getElem?_toList, Option.map_eq_some_iff] at ht
  obtain ⟨c, hc, rfl⟩ := ht
  refine ⟨(Array.getElem?_eq_some_iff.mp hc).1, fun x H' ⟨h1, c', h2, h3⟩ => ?_⟩
  rw [hc] at h2
  cases h2
  subst h3
  exact ⟨w', h1.symm, rfl, Ev.refl, ok', .cl (.str _)⟩
def iDic (w : World) (x : V) (H : Hp) (R : L2.It → Hp → Prop) : Prop := ∃ a o ks vs, x = .ref a ∧ H a = some (objO a o) ∧ (a == sysModules) = false ∧ DObj w o ks vs ∧ R (ItD a o (keysD vs)) H
theorem pi_seqD {X : Cx} {tg l : Expr} {tl : TE} (hl : PE X l tl) : PI X tg l (fun σ H R => tl σ H fun x H1 => ((∃ z, x = .str z ∧ R (Its z) H1) ∨ ∃ a, x = .ref a ∧ (((∃ xs, SqL X.K H1 a xs) ∧ R (Itl X.K a) H1) ∨ ((∃ xs, SqT X.K H1 a xs) ∧ R (Itt X.K a) H1))) ∨ iDic X.w x H1 R) := by
  refine ⟨fun pins s σ H R I h => thn (hl.run pins s σ H _ I h) fun v s1 ⟨x, H1, I1, r1, q1⟩ => ?_⟩
  rcases q1 with (⟨z, e, q⟩ | q1) | ⟨a, o, ks, vs, e, ha, hs, d, q⟩
  · subst e
    exact strIt I1 r1 q
  · exact seqIt I1 r1 q1
  · subst e
    obtain rfl : v = Value.ref a := r1
    exact dctIt I1 ha hs d q
theorem wk_dct {w : Wd} {a : Addr} {o : Obj} {vs : List V} {ts : List T} (s : ∀ w', Ev w w' → w'.Ok G → w'.H a = some (objO a o)) (ok : w.Ok G) (c : w.RCs G vs ts) : Wk G (ItD a o vs) w ts := by
  refine ⟨fun w' e ok' => ⟨s w' e ok', by rw [c.length]; exact Nat.le_refl _⟩, fun w' i t e ok' ht => ?_⟩
  obtain ⟨v, hv, r⟩ := c.get ht
  refine ⟨⟨s w' e ok', (List.getElem?_eq_some_iff.mp hv).1⟩, fun x H' ⟨hH, hx⟩ => ⟨w', hH.symm, rfl, Ev.refl, ok', ?_⟩⟩
  rw [hv] at hx
  cases hx
  exact .cl (e.rc ok r)
/-- a dict that is walked -/
theorem walkD_ok {w0 w : Wd} {t : T} {v : V} {F : List Addr} {xs : List T} {ks : List Nat} {st' : Store} (ok : w.Ok G) (r : w.RO G v t F) (ow : Own w0 w F) (h : walkD t w.st = some (xs, ks, st')) :
    ∃ w' a o kk vs, w'.st = st' ∧ w'.H = w.H ∧ Ev w w' ∧ w'.Ok G ∧ v = .ref a ∧ (∀ w2, Ev w' w2 → w2.Ok G → w2.H a = some (objO a o)) ∧ (a == sysModules) = false ∧ DObj G.w o kk vs ∧ w'.RCs G (keysD vs) xs ∧ ∀ k ∈ ks, ∀ a, w'.r[k]? = some a → Live w a := by
  have fin : ∀ {w' : Wd} {a : Addr} {kk : List NestedKey} {vs : List V} {ys : List T}, Ev w w' → w'.Ok G → w'.H = w.H → w'.st = st' → v = .ref a → (¬ Live w' a) → DctAt G.w w'.H a kk vs → w'.RCs G vs ys → keysD ys = xs → (∀ k ∈ ks, ∀ a, w'.r[k]? = some a → Live w a) →
      ∃ w' a o kk vs, w'.st = st' ∧ w'.H = w.H ∧ Ev w w' ∧ w'.Ok G ∧ v = .ref a ∧ (∀ w2, Ev w' w2 → w2.Ok G → w2.H a = some (objO a o)) ∧ (a == sysModules) = false ∧ DObj G.w o kk vs ∧ w'.RCs G (keysD vs) xs ∧ ∀ k ∈ ks, ∀ a, w'.r[k]? = some a → Live w a :=
    fun {w' a kk vs ys} e ok' eH eS ev nl ⟨o, z1, z2, z3⟩ c ex lk => ⟨w', a, o, kk, vs, eS, eH, e, ok', ev, fun w2 e2 _ => e2.keep a _ z1 nl, z2, z3, ex ▸ keysD_c c, lk⟩
  unfold walkD at h
  split at h
  · rename_i kk ys
    split at h
    · cases h
      cases r with
      | of0 r =>
        cases r with
        | cl r =>
          cases r with
          | nd s ha cs => exact fin Ev.refl ok rfl rfl rfl (fun l => ok.live l s) ha cs rfl (by simp)
          | ndK ha cs =>
            obtain ⟨o, z, _⟩ := ha fun _ => none
            cases z
    · cases h
  · rename_i kk ys
    split at h
    · cases h
      cases r with
      | of0 r => cases r with | cl r => cases r
      | own ha cs => exact fin Ev.refl ok rfl rfl rfl (fun l => ow.nr _ (by simp) l.mem) ha cs rfl (by simp)
    · cases h
  · rename_i k
    obtain ⟨a, rfl, hk, rfl⟩ := RO_ref r
    split at h
    · rename_i kk ys q
      split at h
      · cases h
        obtain ⟨ns, vs, ha, cs⟩ := ok.cells k a _ hk q
        obtain ⟨ok', ev, nl⟩ := ok.lock (o' := .lk) hk q (.inl ⟨rfl, rfl⟩)
        refine fin (w' := ⟨w.H, w.r, w.st.set k (.nd (.dic kk) .lk ys), w.S⟩) ev ok' rfl rfl rfl nl ha cs rfl fun j hj b hb => ?_
        rw [List.mem_singleton.mp hj] at hb
        have e : a = b := Option.some.inj (hk.symm.trans hb)
        subst e
        exact ⟨k, _, _, _, hk, q, .inl rfl⟩
      · cases h
    · rename_i kk ys q
      split at h
      · cases h
        obtain ⟨s, vs, ha, cs⟩ := ok.cells k a _ hk q
        exact fin Ev.refl ok rfl rfl rfl (fun l => ok.live l s) ha cs rfl (by simp)
      · cases h
    · rename_i kk ys q
      split at h
      · cases h
        obtain ⟨ns, vs, ha, cs⟩ := ok.cells k a _ hk q
        exact fin Ev.refl ok rfl rfl rfl (not_live ok hk q (by simp) (by simp)) ha cs rfl (by simp)
      · cases h
    · cases h
  · cases h
theorem i_seq {e : E} (ie : SE G P tb n e) : SI G P tb n (.seq e) := by
  intro X sc W p tg c h
  have h : (mE tb X.N sc e p && plainB p) = true := h
  rw [Bool.and_eq_true] at h
  refine ⟨PI.imp (pi_seqD (ie X sc W p c h.1)) fun σ H Q ⟨w, sl, e, ok, hs, h⟩ => ?_, h.2⟩
  subst e
  refine PostI.bind Ev.refl h ok hs fun x st1 v w1 F1 h e1 ev1 ok1 r1 o1 => ?_
  subst e1
  unfold seqW at h
  split at h
  · rename_i z
    obtain ⟨rfl, rfl⟩ := RO_str r1
    exact .inl (.inl ⟨z, rfl, h _ w1 rfl ev1 ok1 (wk_str z) (by simp)⟩)
  split at h
  · cases q : walkD x w1.st with
    | none => rw [q] at h; exact h.elim
    | some z =>
      obtain ⟨xs, ks, st2⟩ := z
      rw [q] at h
      obtain ⟨w2, a, o, kk, vs, e2, hH, ev2, ok2, rfl, st, hs, d, cs, lk⟩ := walkD_ok ok1 r1 o1 q
      rw [← hH]
      exact .inr ⟨a, o, kk, vs, rfl, st w2 Ev.refl ok2, hs, by rw [c.wd]; exact d, h _ w2 e2 (ev1.trans ev2) ok2 (wk_dct st ok2 cs) (locks ev1 lk)⟩
  refine .inl (.inr ?_)
  cases q : walked x w1.st with
  | none => rw [q] at h; exact h.elim
  | some z =>
    obtain ⟨xs, cc, ks, st2⟩ := z
    rw [q] at h
    obtain ⟨w2, a, g, vs, o, e2, hH, ev2, ok2, rfl, nd, hg, stab, at_, c0, c1, lk⟩ := walked_ok ok1 r1 o1 q
    rw [← hH, c.K]
    have hg2 : (g = .lst ∨ g = .scr) ∨ g = .tup := by rcases hg with z | z | z <;> simp [z]
    rcases hg2 with hg | rfl
    · exact ⟨a, rfl, .inl ⟨⟨vs, stab.L hg w2 Ev.refl ok2⟩, h _ w2 e2 (ev1.trans ev2) ok2 (wk_lst ok2 (stab.L hg) c0) (locks ev1 lk)⟩⟩
    · exact ⟨a, rfl, .inr ⟨⟨vs, stab.T w2 Ev.refl ok2⟩, h _ w2 e2 (ev1.trans ev2) ok2 (wk_tup ok2 stab.T c0) (locks ev1 lk)⟩⟩
theorem star1 {e : Expr} (h : plainB e = true) (env : Env) : starEach [e] env = [(false, eval e env)] := star_plain h [] env
theorem i_rng1 {a : E} (ia : SE G P tb n a) : SI G P tb n (.rng1 a) := by
  intro X sc W p tg c h
  cases p <;> try exact no h rfl
  rename_i fn args kw pos
  cases fn <;> try exact no h rfl
  rename_i x px
  cases args with
  | nil => exact no h rfl
  | cons pa r =>
    cases r with
    | cons _ _ => exact no h rfl
    | nil =>
      cases kw with
      | cons _ _ => exact no h rfl
      | nil =>
        have h : (decide (x = "range") && bltB tb sc x && mE tb X.N sc a pa && plainB pa) = true := h
        simp only [Bool.and_eq_true, decide_eq_true_eq] at h
        obtain ⟨⟨⟨rfl, h1⟩, h2⟩, h3⟩ := h
        obtain ⟨ga, gb, gc, gd⟩ := c.blt h1
        refine ⟨PI.imp (pi_range1W ga gd (pa_cons (ia X sc W pa c h2) pa_nil (star_plain h3 _ _)) (star1 h3 _)) fun σ H Q ⟨w, sl, e, ok, hs, h⟩ => ?_, rfl⟩
        subst e
        refine PostI.bind Ev.refl h ok hs fun x st1 v w1 F1 h e1 ev1 ok1 r1 o1 => ?_
        subst e1
        split at h
        · split at h
          · rename_i j hj
            obtain ⟨rfl, rfl⟩ := RO_int r1
            exact ⟨j, rfl, h _ w1 rfl ev1 ok1 (wk_rng 0 _) (by simp)⟩
          · exact h.elim
        · exact h.elim
theorem i_rng2 {a b : E} (ia : SE G P tb n a) (ib : SE G P tb n b) : SI G P tb n (.rng2 a b) := by
  intro X sc W p tg c h
  cases p <;> try exact no h rfl
  rename_i fn args kw pos
  cases fn <;> try exact no h rfl
  rename_i x px
  cases args with
  | nil => exact no h rfl
  | cons pa r =>
    cases r with
    | nil => exact no h rfl
    | cons pb r =>
      cases r with
      | cons _ _ => exact no h rfl
      | nil =>
        cases kw with
        | cons _ _ => exact no h rfl
        | nil =>
          have h : (decide (x = "range") && bltB tb sc x && mE tb X.N sc a pa && mE tb X.N sc b pb && plainB pa && plainB pb) = true := h
          simp only [Bool.and_eq_true, decide_eq_true_eq] at h
          obtain ⟨⟨⟨⟨⟨rfl, h1⟩, h2⟩, h3⟩, h4⟩, h5⟩ := h
          obtain ⟨ga, gb, gc, gd⟩ := c.blt h1
          refine ⟨PI.imp (pi_range2W ga gd (pa_cons (ia X sc W pa c h2) (pa_cons (ib X sc W pb c h3) pa_nil (star_plain h5 _ _)) (star_plain h4 _ _)) ((star_plain h4 _ _).trans (by rw [star1 h5])) (star1 h5 _)) fun σ H Q ⟨w, sl, e, ok, hs, h⟩ => ?_, rfl⟩
          subst e
          refine PostI.bind Ev.refl h ok hs fun x st1 v w1 F1 h e1 ev1 ok1 r1 o1 => ?_
          subst e1
          refine PostI.bind ev1 h ok1 (hs.mono ev1 ok) fun y st2 u w2 F2 h e2 ev2 ok2 r2 o2 => ?_
          subst e2
          split at h
          · split at h
            · rename_i hj
              obtain ⟨rfl, rfl⟩ := RO_int r1
              obtain ⟨rfl, rfl⟩ := RO_int r2
              exact ⟨_, _, rfl, h _ w2 rfl (ev1.trans ev2) ok2 (wk_rng _ _) (by simp)⟩
            · exact h.elim
          · exact h.elim
theorem i_rng3 {a b d : E} (ia : SE G P tb n a) (ib : SE G P tb n b) (id : SE G P tb n d) : SI G P tb n (.rng3 a b d) := by
  intro X sc W p tg c h
  cases p <;> try exact no h rfl
  rename_i fn args kw pos
  cases fn <;> try exact no h rfl
  rename_i x px
  cases args with
  | nil => exact no h rfl
  | cons pa r =>
    cases r with
    | nil => exact no h rfl
    | cons pb r =>
      cases r with
      | nil => exact no h rfl
      | cons pd r =>
        cases r with
        | cons _ _ => exact no h rfl
        | nil =>
          cases kw with
          | cons _ _ => exact no h rfl
          | nil =>
            have h : (decide (x = "range") && bltB tb sc x && mE tb X.N sc a pa && mE tb X.N sc b pb && mE tb X.N sc d pd && plainB pa && plainB pb && plainB pd) = true := h
            simp only [Bool.and_eq_true, decide_eq_true_eq] at h
            obtain ⟨⟨⟨⟨⟨⟨⟨rfl, h1⟩, h2⟩, h3⟩, h4⟩, h5⟩, h6⟩, h7⟩ := h
            obtain ⟨ga, gb, gc, gd⟩ := c.blt h1
            have es : starEach [pb, pd] X.env = [(false, eval pb X.env), (false, eval pd X.env)] := (star_plain h6 _ _).trans (by rw [star1 h7])
            refine ⟨PI.imp (pi_range3 ga gd (pa_cons (ia X sc W pa c h2) (pa_cons (ib X sc W pb c h3) (pa_cons (id X sc W pd c h4) pa_nil (star_plain h7 _ _)) (star_plain h6 _ _)) (star_plain h5 _ _)) (star_plain h5 _ _) (by rw [es]; rfl)) fun σ H Q ⟨w, sl, e, ok, hs, h⟩ => ?_, rfl⟩
            subst e
            refine PostI.bind Ev.refl h ok hs fun x st1 v w1 F1 h e1 ev1 ok1 r1 o1 => ?_
            subst e1
            refine PostI.bind ev1 h ok1 (hs.mono ev1 ok) fun y st2 u w2 F2 h e2 ev2 ok2 r2 o2 => ?_
            subst e2
            refine PostI.bind (ev1.trans ev2) h ok2 ((hs.mono ev1 ok).mono ev2 ok1) fun z st3 u3 w3 F3 h e3 ev3 ok3 r3 o3 => ?_
            subst e3
            split at h
            · split at h
              · rename_i hj
                unfold rngW at hj
                simp only [Bool.and_eq_true, decide_eq_true_eq] at hj
                obtain ⟨rfl, hj⟩ := hj
                obtain ⟨rfl, rfl⟩ := RO_int r1
                obtain ⟨rfl, rfl⟩ := RO_int r2
                obtain ⟨rfl, rfl⟩ := RO_int r3
                exact ⟨_, _, _, _, rfl, RgC.neg hj.1.1.2 hj.1.2 hj.1.1.1.1 hj.1.1.1.2, h _ w3 rfl ((ev1.trans ev2).trans ev3) ok3 (wk_dn _ _) (by simp)⟩
              · exact h.elim
            · exact h.elim
theorem listB_tag {st : Store} {t : T} {g : Tag} {o : Ow} {xs : List T} (h : listB st t = true) (e : nodeOf st t = some (g, o, xs)) : g = .lst ∨ g = .scr := by
  unfold listB at h
  rw [e] at h
  cases g <;> simp at h ⊢
theorem tupB_tag {st : Store} {t : T} {g : Tag} {o : Ow} {xs : List T} (h : tupB st t = true) (e : nodeOf st t = some (g, o, xs)) : g = .tup := by
  unfold tupB at h
  rw [e] at h
  cases g <;> simp at h ⊢
theorem tags_set {st : Store} {k : Nat} {o o' : Ow} {ys : List T} (h : st[k]? = some (.nd .lst o ys)) (y : T) : listB (st.set k (.nd .lst o' ys)) y = listB st y ∧ tupB (st.set k (.nd .lst o' ys)) y = tupB st y := by
  cases y with
  | ref j =>
    by_cases e : k = j
    · subst e
      have hk : k < st.length := (List.getElem?_eq_some_iff.mp h).1
      simp only [listB, tupB, nodeOf, h, List.getElem?_set_self hk, and_self]
    · simp only [listB, tupB, nodeOf, List.getElem?_set_ne e, and_self]
  | _ => exact ⟨rfl, rfl⟩
theorem walked_tags {x : T} {st st' : Store} {xs : List T} {c : Bool} {ks : List Nat} (h : walked x st = some (xs, c, ks, st')) (y : T) : listB st' y = listB st y ∧ tupB st' y = tupB st y := by
  unfold walked at h
  split at h
  · cases h; exact ⟨rfl, rfl⟩
  · cases h; exact ⟨rfl, rfl⟩
  · cases h; exact ⟨rfl, rfl⟩
  · cases h; exact ⟨rfl, rfl⟩
  · split at h
    · cases h; exact ⟨rfl, rfl⟩
    · cases h
  · split at h
    · rename_i q
      cases h
      exact tags_set q y
    · rename_i q
      cases h
      exact tags_set q y
    · cases h; exact ⟨rfl, rfl⟩
    · cases h; exact ⟨rfl, rfl⟩
    · cases h; exact ⟨rfl, rfl⟩
    · cases h
  · cases h
theorem i_enum {a : E} (ia : SE G P tb n a) : SI G P tb n (.enum a) := by
  intro X sc W p tg c h
  cases p <;> try exact no h rfl
  rename_i fn args kw pos
  cases fn <;> try exact no h rfl
  rename_i x px
  cases args with
  | nil => exact no h rfl
  | cons pa r =>
    cases r with
    | cons _ _ => exact no h rfl
    | nil =>
      cases kw with
      | cons _ _ => exact no h rfl
      | nil =>
        cases tg <;> try exact no h rfl
        have h : (decide (x = "enumerate") && bltB tb sc x && mE tb X.N sc a pa && plainB pa) = true := h
        simp only [Bool.and_eq_true, decide_eq_true_eq] at h
        obtain ⟨⟨⟨rfl, h1⟩, h2⟩, h3⟩ := h
        obtain ⟨ga, gb, gc, gd⟩ := c.blt h1
        refine ⟨PI.imp (pi_enum ga gd (pa_cons (ia X sc W pa c h2) pa_nil (star_plain h3 _ _)) (star1 h3 _)) fun σ H Q ⟨w, sl, e, ok, hs, h⟩ => ?_, rfl⟩
        subst e
        refine PostI.bind Ev.refl h ok hs fun x st1 v w1 F1 h e1 ev1 ok1 r1 o1 => ?_
        subst e1
        split at h
        · rename_i hl
          cases q : walked x w1.st with
          | none => rw [q] at h; exact h.elim
          | some z =>
            obtain ⟨xs, cc, ks, st2⟩ := z
            rw [q] at h
            obtain ⟨w2, a, g, vs, o, e2, hH, ev2, ok2, rfl, nd, hg, stab, at_, c0, c1, lk⟩ := walked_ok ok1 r1 o1 q
            have hg := listB_tag hl nd
            rw [← hH, c.K]
            exact ⟨a, vs, rfl, stab.L hg w2 Ev.refl ok2, h _ w2 e2 (ev1.trans ev2) ok2 (wk_enum ok2 (stab.L hg) c0 c1) (locks ev1 lk)⟩
        · exact h.elim
theorem wk_rev {w : Wd} {a : Addr} {vs : List V} {ts : List T} (ok : w.Ok G) (s : ∀ w', Ev w w' → w'.Ok G → SqL G.K w'.H a vs) (c : w.R0s G vs ts) : Wk G (Itv G.K a vs.length) w ts.reverse := by
  refine ⟨fun w' e ok' => by show vs.length ≤ _; rw [List.length_reverse, c.length]; exact Nat.le_refl _, fun w' i t e ok' ht => ?_⟩
  obtain ⟨hi, et⟩ := List.getElem?_eq_some_iff.mp ht
  rw [List.length_reverse] at hi
  rw [List.getElem_reverse] at et
  obtain ⟨v, hv, r⟩ := c.get (i := ts.length - 1 - i) (t := t) (by rw [List.getElem?_eq_some_iff]; exact ⟨by omega, et⟩)
  rw [← c.length] at hv hi
  refine ⟨⟨hi, vs, v, s w' e ok', hv⟩, fun x H' ⟨hH, hx⟩ => ⟨w', hH.symm, rfl, Ev.refl, ok', ?_⟩⟩
  have := hx vs (s w' e ok')
  rw [hv] at this
  cases this
  exact e.r0 ok r
theorem wk_revT {w : Wd} {a : Addr} {vs : List V} {ts : List T} (ok : w.Ok G) (s : ∀ w', Ev w w' → w'.Ok G → SqT G.K w'.H a vs) (c : w.R0s G vs ts) : Wk G (RT.ItvT G.K a vs.length) w ts.reverse := by
  refine ⟨fun w' e ok' => by show vs.length ≤ _; rw [List.length_reverse, c.length]; exact Nat.le_refl _, fun w' i t e ok' ht => ?_⟩
  obtain ⟨hi, et⟩ := List.getElem?_eq_some_iff.mp ht
  rw [List.length_reverse] at hi
  rw [List.getElem_reverse] at et
  obtain ⟨v, hv, r⟩ := c.get (i := ts.length - 1 - i) (t := t) (by rw [List.getElem?_eq_some_iff]; exact ⟨by omega, et⟩)
  rw [← c.length] at hv hi
  refine ⟨⟨hi, vs, v, s w' e ok', hv⟩, fun x H' ⟨hH, hx⟩ => ⟨w', hH.symm, rfl, Ev.refl, ok', ?_⟩⟩
  have := hx vs (s w' e ok')
  rw [hv] at this
  cases this
  exact e.r0 ok r
theorem i_rev {a : E} (ia : SE G P tb n a) : SI G P tb n (.rev a) := by
  intro X sc W p tg c h
  cases p <;> try exact no h rfl
  rename_i fn args kw pos
  cases fn <;> try exact no h rfl
  rename_i x px
  match args, kw, h with
  | [pa], [], h =>
    have h : (decide (x = "reversed") && bltB tb sc x && mE tb X.N sc a pa && plainB pa) = true := h
    simp only [Bool.and_eq_true, decide_eq_true_eq] at h
    obtain ⟨⟨⟨rfl, h1⟩, h2⟩, h3⟩ := h
    obtain ⟨ga, gb, gc, gd⟩ := c.blt h1
    refine ⟨PI.imp (RT.pi_revA ga gd (ia X sc W pa c h2) (star1 h3 _)) fun σ H Q ⟨w, sl, e, ok, hs, h⟩ => ?_, rfl⟩
    subst e
    refine PostI.bind Ev.refl h ok hs fun x st1 v w1 F1 h e1 ev1 ok1 r1 o1 => ?_
    subst e1
    split at h
    · rename_i hl
      cases q : walked x w1.st with
      | none => rw [q] at h; exact h.elim
      | some z =>
        obtain ⟨xs, cc, ks, st2⟩ := z
        rw [q] at h
        obtain ⟨w2, a, g, vs, o, e2, hH, ev2, ok2, rfl, nd, hg, stab, at_, c0, c1, lk⟩ := walked_ok ok1 r1 o1 q
        rw [← hH, c.K]
        have hg2 : (g = .lst ∨ g = .scr) ∨ g = .tup := by rcases hg with z | z | z <;> simp [z]
        rcases hg2 with hg | rfl
        · exact ⟨a, vs, rfl, .inl ⟨stab.L hg w2 Ev.refl ok2, h _ w2 e2 (ev1.trans ev2) ok2 (wk_rev ok2 (stab.L hg) c0) (locks ev1 lk)⟩⟩
        · exact ⟨a, vs, rfl, .inr ⟨stab.T w2 Ev.refl ok2, h _ w2 e2 (ev1.trans ev2) ok2 (wk_revT ok2 stab.T c0) (locks ev1 lk)⟩⟩
    · exact h.elim
theorem i_zip2 {a b : E} (ia : SE G P tb n a) (ib : SE G P tb n b) : SI G P tb n (.zip2 a b) := by
  intro X sc W p tg c h
  cases p <;> try exact no h rfl
  rename_i fn args kw pos
  cases fn <;> try exact no h rfl
  rename_i x px
  cases args with
  | nil => exact no h rfl
  | cons pa r =>
    cases r with
    | nil => exact no h rfl
    | cons pb r =>
      cases r with
      | cons _ _ => exact no h rfl
      | nil =>
        cases kw with
        | cons _ _ => exact no h rfl
        | nil =>
          cases tg <;> try exact no h rfl
          have h : (decide (x = "zip") && bltB tb sc x && mE tb X.N sc a pa && mE tb X.N sc b pb && plainB pa && plainB pb) = true := h
          simp only [Bool.and_eq_true, decide_eq_true_eq] at h
          obtain ⟨⟨⟨⟨⟨rfl, h1⟩, h2⟩, h3⟩, h4⟩, h5⟩ := h
          obtain ⟨ga, gb, gc, gd⟩ := c.blt h1
          refine ⟨PI.imp (pi_zipX ga gd (pa_cons (ia X sc W pa c h2) (pa_cons (ib X sc W pb c h3) pa_nil (star_plain h5 _ _)) (star_plain h4 _ _)) (star_plain h4 _ _) (stars_any (es := [pb]) (by rw [List.all_cons, h5]; rfl) _ _)) fun σ H Q ⟨w, sl, e, ok, hs, h⟩ => ?_, rfl⟩
          subst e
          refine PostI.bind Ev.refl h ok hs fun x st1 v w1 F1 h e1 ev1 ok1 r1 o1 => ?_
          subst e1
          refine PostI.bind ev1 h ok1 (hs.mono ev1 ok) fun y st2 u w2 F2 h e2 ev2 ok2 r2 o2 => ?_
          subst e2
          have ev12 := ev1.trans ev2
          split at h
          · rename_i hl
            cases q : walked x w2.st with
            | none => rw [q] at h; exact h.elim
            | some z =>
              obtain ⟨xs, cc, ks, st3⟩ := z
              rw [q] at h
              obtain ⟨w3, a, g, vs, o, e3, hH, ev3, ok3, rfl, nd, hg, stab, at_, c0, c1, lk⟩ := walked_ok ok2 (ev2.ro ok1 o1 r1) (o1.mono ev2 (RepO.trk r1)) q
              subst e3
              simp only at h
              cases q4 : walked y w3.st with
              | none => rw [q4] at h; exact h.elim
              | some z =>
                obtain ⟨ys, cc', ks', st4⟩ := z
                rw [q4] at h
                obtain ⟨w4, b, g', us, o', e4, hH4, ev4, ok4, rfl, nd', hg', stab', at', c0', c1', lk'⟩ := walked_ok ok3 (ev3.ro ok2 o2 r2) (o2.mono ev3 (RepO.trk r2)) q4
                have sb := stab.mono ev4
                have c0 := ev4.r0s ok3 c0
                have c1 : cc = true → w4.RCs G vs xs := fun z => ev4.rcs ok3 (c1 z)
                have lks : ∀ k ∈ ks ++ ks', ∀ a, w4.r[k]? = some a → Live w a ∨ w.H a = none := fun k hk a ha => by
                  rcases List.mem_append.mp hk with hk | hk
                  · obtain ⟨m, em, nm⟩ := ev4.rho
                    rw [em] at ha
                    by_cases hl : k < w3.r.length
                    · rw [List.getElem?_append_left hl] at ha
                      exact ev12.live a (lk k hk a ha)
                    · rw [List.getElem?_append_right (Nat.le_of_not_lt hl)] at ha
                      exact .inr ((ev12.trans ev3).non_ (nm a (List.mem_of_getElem? ha)))
                  · exact (ev12.trans ev3).live a (lk' k hk a ha)
                rw [← hH, ← hH4, c.K]
                rw [Bool.or_eq_true, Bool.or_eq_true, Bool.and_eq_true, Bool.and_eq_true, Bool.and_eq_true] at hl
                rcases hl with (⟨hx, hy⟩ | ⟨hx, hy⟩) | ⟨hx, hy⟩
                · have hg := listB_tag hx nd
                  have hg' : g' = .lst ∨ g' = .scr := listB_tag ((walked_tags q y).1.trans hy) nd'
                  exact ⟨a, b, vs, us, rfl, .inl ⟨sb.L hg w4 Ev.refl ok4, stab'.L hg' w4 Ev.refl ok4, h _ w4 e4 ((ev12.trans ev3).trans ev4) ok4 (wk_zip ok4 (sb.L hg) (stab'.L hg') c0 c1 c0' c1') lks⟩⟩
                · obtain rfl := tupB_tag hx nd
                  have hg' : g' = .tup := tupB_tag ((walked_tags q y).2.trans hy) nd'
                  subst hg'
                  exact ⟨a, b, vs, us, rfl, .inr (.inl ⟨sb.T w4 Ev.refl ok4, stab'.T w4 Ev.refl ok4, h _ w4 e4 ((ev12.trans ev3).trans ev4) ok4 (wk_zipT ok4 sb.T stab'.T c0 c1 c0' c1') lks⟩)⟩
                · obtain rfl := tupB_tag hx nd
                  have hg' : g' = .lst ∨ g' = .scr := listB_tag ((walked_tags q y).1.trans hy) nd'
                  exact ⟨a, b, vs, us, rfl, .inr (.inr ⟨sb.T w4 Ev.refl ok4, stab'.L hg' w4 Ev.refl ok4, h _ w4 e4 ((ev12.trans ev3).trans ev4) ok4 (wk_zipM ok4 sb.T (stab'.L hg') c0 c1 c0' c1') lks⟩)⟩
          · exact h.elim
theorem i_zip3 {a b d : E} (ia : SE G P tb n a) (ib : SE G P tb n b) (id : SE G P tb n d) : SI G P tb n (.zip3 a b d) := by
  intro X sc W p tg c h
  cases p <;> try exact no h rfl
  rename_i fn args kw pos
  cases fn <;> try exact no h rfl
  rename_i x px
  match args, kw, tg, h with
  | [pa, pb, pd], [], .Tuple _ _ _, h =>
    have h : (decide (x = "zip") && bltB tb sc x && mE tb X.N sc a pa && mE tb X.N sc b pb && mE tb X.N sc d pd && plainB pa && plainB pb && plainB pd) = true := h
    simp only [Bool.and_eq_true, decide_eq_true_eq] at h
    obtain ⟨⟨⟨⟨⟨⟨⟨rfl, h1⟩, h2⟩, h3⟩, h6⟩, h4⟩, h5⟩, h7⟩ := h
    obtain ⟨ga, gb, gc, gd⟩ := c.blt h1
    refine ⟨PI.imp (pi_zip3 ga gd (pa_cons (ia X sc W pa c h2) (pa_cons (ib X sc W pb c h3) (pa_cons (id X sc W pd c h6) pa_nil (star_plain h7 _ _)) (star_plain h5 _ _)) (star_plain h4 _ _)) (star_plain h4 _ _) (stars_any (es := [pb, pd]) (by rw [List.all_cons, h5, List.all_cons, h7]; rfl) _ _)) fun σ H Q ⟨w, sl, e, ok, hs, h⟩ => ?_, rfl⟩
    subst e
    refine PostI.bind Ev.refl h ok hs fun x st1 v w1 F1 h e1 ev1 ok1 r1 o1 => ?_
    subst e1
    refine PostI.bind ev1 h ok1 (hs.mono ev1 ok) fun y st2 u w2 F2 h e2 ev2 ok2 r2 o2 => ?_
    subst e2
    have ev12 := ev1.trans ev2
    refine PostI.bind ev12 h ok2 (hs.mono ev12 ok) fun z st3 t w3 F3 h e3 ev3 ok3 r3 o3 => ?_
    subst e3
    have ev13 := ev12.trans ev3
    have ev23 := ev2.trans ev3
    split at h
    · rename_i hl
      cases q : walked x w3.st with
      | none => rw [q] at h; exact h.elim
      | some zz =>
        obtain ⟨xs, cc, ks, st4⟩ := zz
        rw [q] at h
        obtain ⟨w4, a', g, vs, o, e4, hH4, ev4, ok4, rfl, nd, hg, stab, at_, c0, c1, lk⟩ := walked_ok ok3 (ev23.ro ok1 o1 r1) (o1.mono ev23 (RepO.trk r1)) q
        subst e4
        simp only at h
        cases q4 : walked y w4.st with
        | none => rw [q4] at h; exact h.elim
        | some zz =>
          obtain ⟨ys, cc', ks', st5⟩ := zz
          rw [q4] at h
          have ev34 := ev3.trans ev4
          obtain ⟨w5, b', g', us, o', e5, hH5, ev5, ok5, rfl, nd', hg', stab', at', c0', c1', lk'⟩ := walked_ok ok4 (ev34.ro ok2 o2 r2) (o2.mono ev34 (RepO.trk r2)) q4
          subst e5
          simp only at h
          cases q5 : walked z w5.st with
          | none => rw [q5] at h; exact h.elim
          | some zz =>
            obtain ⟨zs, cc'', ks'', st6⟩ := zz
            rw [q5] at h
            have ev45 := ev4.trans ev5
            obtain ⟨w6, d', g'', ts, o'', e6, hH6, ev6, ok6, rfl, nd'', hg'', stab'', at'', c0'', c1'', lk''⟩ := walked_ok ok5 (ev45.ro ok3 o3 r3) (o3.mono ev45 (RepO.trk r3)) q5
            have ev56 := ev5.trans ev6
            have ev14 := ev13.trans ev4
            have ev15 := ev14.trans ev5
            have sb := stab.mono ev56
            have sb' := stab'.mono ev6
            have c0 := ev56.r0s ok4 c0
            have c1 : cc = true → w6.RCs G vs xs := fun z => ev56.rcs ok4 (c1 z)
            have c0' := ev6.r0s ok5 c0'
            have c1' : cc' = true → w6.RCs G us ys := fun z => ev6.rcs ok5 (c1' z)
            have back : ∀ {wa wb wc : Wd} {kk : List Nat} (_ : Ev wa wb) (_ : Ev wb wc) (_ : ∀ k ∈ kk, ∀ a, wb.r[k]? = some a → Live wa a ∨ wa.H a = none), ∀ k ∈ kk, ∀ a, wc.r[k]? = some a → Live wa a ∨ wa.H a = none := fun {wa wb wc kk} e1 e2 hl k hk a ha => by
              obtain ⟨m, em, nm⟩ := e2.rho
              rw [em] at ha
              by_cases hlt : k < wb.r.length
              · rw [List.getElem?_append_left hlt] at ha
                exact hl k hk a ha
              · rw [List.getElem?_append_right (Nat.le_of_not_lt hlt)] at ha
                exact .inr (e1.non_ (nm a (List.mem_of_getElem? ha)))
            have lks : ∀ k ∈ ks ++ ks' ++ ks'', ∀ a, w6.r[k]? = some a → Live w a ∨ w.H a = none := fun k hk a ha => by
              rcases List.mem_append.mp hk with hk | hk
              · rcases List.mem_append.mp hk with hk | hk
                · exact back ev14 ev56 (fun k hk a ha => ev13.live a (lk k hk a ha)) k hk a ha
                · exact back ev15 ev6 (fun k hk a ha => ev14.live a (lk' k hk a ha)) k hk a ha
              · exact ev15.live a (lk'' k hk a ha)
            rw [← hH4, ← hH5, ← hH6, c.K]
            rw [Bool.or_eq_true, Bool.and_eq_true, Bool.and_eq_true, Bool.and_eq_true, Bool.and_eq_true] at hl
            rcases hl with ⟨⟨hx, hy⟩, hz⟩ | ⟨⟨hx, hy⟩, hz⟩
            · have hg := listB_tag hx nd
              have hg' : g' = .lst ∨ g' = .scr := listB_tag ((walked_tags q y).1.trans hy) nd'
              have hg'' : g'' = .lst ∨ g'' = .scr := listB_tag ((walked_tags q4 z).1.trans ((walked_tags q z).1.trans hz)) nd''
              exact ⟨a', b', d', vs, us, ts, rfl, .inl ⟨sb.L hg w6 Ev.refl ok6, sb'.L hg' w6 Ev.refl ok6, stab''.L hg'' w6 Ev.refl ok6, h _ w6 e6 (ev15.trans ev6) ok6 (wk_zip3L ok6 (sb.L hg) (sb'.L hg') (stab''.L hg'') c0 c1 c0' c1' c0'' c1'') lks⟩⟩
            · obtain rfl := tupB_tag hx nd
              have hg' : g' = .tup := tupB_tag ((walked_tags q y).2.trans hy) nd'
              have hg'' : g'' = .tup := tupB_tag ((walked_tags q4 z).2.trans ((walked_tags q z).2.trans hz)) nd''
              subst hg' hg''
              exact ⟨a', b', d', vs, us, ts, rfl, .inr ⟨sb.T w6 Ev.refl ok6, sb'.T w6 Ev.refl ok6, stab''.T w6 Ev.refl ok6, h _ w6 e6 (ev15.trans ev6) ok6 (wk_zip3T ok6 sb.T sb'.T stab''.T c0 c1 c0' c1' c0'' c1'') lks⟩⟩
    · exact h.elim
end PC
namespace PC
open PySem PySem.Spec PyProof.Rows L2
variable {G : Glb} {P : Prog} {tb : Tab} {n : Nat}
/-! ### wiped slots -/
theorem wipe_in {σ : L2.St} {i : Nat} : ∀ {vs : List Nat}, i ∈ vs → (wipe σ vs)[i]? = if i < σ.length then some none else none
  | v :: vs, h => by
    unfold wipe
    by_cases e : v = i
    · subst e
      by_cases hl : v < σ.length
      · rw [List.getElem?_set_self (by rw [wipe_length]; exact hl), if_pos hl]
      · rw [List.getElem?_eq_none (by rw [List.length_set, wipe_length]; exact Nat.le_of_not_lt hl), if_neg hl]
    · rw [List.getElem?_set_ne e]
      exact wipe_in ((List.mem_cons.mp h).resolve_left fun z => e z.symm)
theorem wipe_set {σ : L2.St} {i : Nat} {x : Option V} {vs : List Nat} (h : i ∈ vs) : wipe (σ.set i x) vs = wipe σ vs := by
  apply List.ext_getElem?
  intro j
  by_cases hj : j ∈ vs
  · rw [wipe_in hj, wipe_in hj, List.length_set]
  · rw [wipe_out hj, wipe_out hj, List.getElem?_set_ne (show i ≠ j from fun e => hj (e ▸ h))]
theorem wipe_idem {σ : L2.St} {vs : List Nat} : wipe (wipe σ vs) vs = wipe σ vs := by
  apply List.ext_getElem?
  intro j
  by_cases hj : j ∈ vs
  · rw [wipe_in hj, wipe_in hj, wipe_length]
  · rw [wipe_out hj]
theorem wipeS_length (sl : Slots) : ∀ vs : List Nat, (wipeS sl vs).length = sl.length
  | [] => rfl
  | v :: vs => by unfold wipeS; rw [List.length_set, wipeS_length sl vs]
theorem wipeS_some {σ : Slots} {i : Nat} {x : T} : ∀ {vs : List Nat}, (wipeS σ vs)[i]? = some (some x) → σ[i]? = some (some x) ∧ i ∉ vs
  | [], h => ⟨h, by simp⟩
  | v :: vs, h => by
    unfold wipeS at h
    by_cases hi : v = i
    · subst hi
      by_cases hv : v < (wipeS σ vs).length
      · rw [List.getElem?_set_self hv] at h; cases h
      · rw [List.getElem?_eq_none (by simpa using hv)] at h; cases h
    · rw [List.getElem?_set_ne hi] at h
      obtain ⟨h1, h2⟩ := wipeS_some h
      exact ⟨h1, by simp only [List.mem_cons, not_or]; exact ⟨fun e => hi e.symm, h2⟩⟩
theorem SlotR.wipe {w : Wd} {σ : L2.St} {sl : Slots} (h : SlotR G w σ sl) (vs : List Nat) : SlotR G w (wipe σ vs) (wipeS sl vs) := by
  refine ⟨by rw [wipeS_length, wipe_length]; exact h.len, fun i t q => ?_⟩
  obtain ⟨q1, q2⟩ := wipeS_some q
  obtain ⟨v, h1, h2⟩ := h.get i t q1
  exact ⟨v, by rw [wipe_out q2]; exact h1, h2⟩
/-! ### targets -/
theorem RepO.nil0 {H : Hp} {S : Addr → Prop} {r : List Addr} {v : V} {t : T} {F : List Addr} (h : RepO G H S r v t F) (e : F = []) : Rep0 G H S r v t := by
  cases h with
  | of0 h => exact h
  | own _ _ => cases e
  | opn _ _ => cases e
theorem RepOs.nil0 {H : Hp} {S : Addr → Prop} {r : List Addr} : ∀ {v : List V} {t : List T} {F : List Addr}, RepOs G H S r v t F → F = [] → Rep0s G H S r v t
  | _, _, _, .nil, _ => .nil
  | _, _, _, .cons h t, e => .cons (h.nil0 (List.append_eq_nil_iff.mp e).1) (RepOs.nil0 t (List.append_eq_nil_iff.mp e).2)
theorem seq_of {w : Wd} (ok : w.Ok G) {v : V} {t : T} {xs : List T} (r : w.R0 G v t) (h : seqOf w.st t = some xs) : ∃ a vs, v = .ref a ∧ w.H a = some (.tup vs) ∧ w.R0s G vs xs := by
  unfold seqOf at h
  split at h
  · rename_i q
    cases h
    obtain ⟨a, vs, F', rfl, ha, cs, sb⟩ := (node_of ok (.of0 r) q).read
    exact ⟨a, vs, rfl, ha, cs.nil0 (List.sublist_nil.mp sb)⟩
  · cases h
theorem lsq_of0 {w : Wd} (ok : w.Ok G) {v : V} {t : T} {xs : List T} (r : w.R0 G v t) (h : lsqOf w.st t = some xs) : ∃ a vs, v = .ref a ∧ (w.H a = some (.tup vs) ∨ w.H a = some (.lst vs)) ∧ w.R0s G vs xs := by
  unfold lsqOf at h
  split at h
  · rename_i q
    cases h
    obtain ⟨a, vs, F', rfl, ha, cs, sb⟩ := (node_of ok (.of0 r) q).read
    exact ⟨a, vs, rfl, .inr ha, cs.nil0 (List.sublist_nil.mp sb)⟩
  · rename_i q
    cases h
    obtain ⟨a, vs, F', rfl, ha, cs, sb⟩ := (node_of ok (.of0 r) q).read
    exact ⟨a, vs, rfl, .inl ha, cs.nil0 (List.sublist_nil.mp sb)⟩
  · cases h
theorem PG.or {X : Cx} {e : Expr} {t t' : TG} (h : PG X e t) (h' : PG X e t') : PG X e (fun x σ H Q => t x σ H Q ∨ t' x σ H Q) := ⟨fun pins s σ H v u Q I r q => by
  rcases q with q | q
  · exact h.run pins s σ H v u Q I r q
  · exact h'.run pins s σ H v u Q I r q⟩
def gB (G : Glb) (tg : Tg) : TG := fun x σ H Q => ∃ w t sl sl', w.H = H ∧ w.Ok G ∧ SlotR G w σ sl ∧ w.R0 G x t ∧ bindT w.st tg t sl = some sl' ∧ ∀ σ', SlotR G w σ' sl' → (∀ vs : List Nat, (∀ i ∈ tg.vars, i ∈ vs) → wipe σ' vs = wipe σ vs) → Q σ' H
def gBs (G : Glb) (tgs : List Tg) : TGs := fun xs σ H Q => ∃ w ts sl sl', w.H = H ∧ w.Ok G ∧ SlotR G w σ sl ∧ w.R0s G xs ts ∧ bindL w.st tgs ts sl = some sl' ∧ ∀ σ', SlotR G w σ' sl' → (∀ vs : List Nat, (∀ i ∈ varsL tgs, i ∈ vs) → wipe σ' vs = wipe σ vs) → Q σ' H
theorem PG.imp {X : Cx} {e : Expr} {t t' : TG} (h : PG X e t) (i : ∀ x σ H Q, t' x σ H Q → t x σ H Q) : PG X e t' := ⟨fun pins s σ H v u Q I r q => h.run pins s σ H v u Q I r (i v σ H Q q)⟩
theorem PGs.imp {X : Cx} {e : List Expr} {t t' : TGs} (h : PGs X e t) (i : ∀ x σ H Q, t' x σ H Q → t x σ H Q) : PGs X e t' := ⟨fun pins s σ H v u Q I r q => h.run pins s σ H v u Q I r (i v σ H Q q)⟩
/-- how a scope's own names stand -/
def LocOk (X : Cx) (sc : Scope) : Prop := ∀ x, locB sc x true = true → Loc X.env.scope x ∧ (X.fn x = true ∨ X.env.scope.names.lookup x = some .local)
theorem each_cons {N : List Str} {sc : Scope} {t : Tg} {e : Expr} (h : mTg N sc t e = true) (es : List Expr) (env : Env) : assignEach (e :: es) env = (false, assign e env) :: assignEach es env := by
  cases t <;> cases e <;> first | rfl | cases h
theorem each_all {N : List Str} {sc : Scope} : ∀ {ts : List Tg} {es : List Expr} (env : Env), mTgs N sc ts es = true → (assignEach es env).length = ts.length ∧ (assignEach es env).findIdx? (·.1) = none
  | [], [], _, _ => ⟨rfl, rfl⟩
  | [], _ :: _, _, h => no h rfl
  | _ :: _, [], _, h => no h rfl
  | t :: ts, e :: es, env, h => by
    have h : (mTg N sc t e && mTgs N sc ts es) = true := h
    rw [Bool.and_eq_true] at h
    obtain ⟨h1, h2⟩ := each_all env h.2
    rw [each_cons h.1]
    refine ⟨congrArg Nat.succ h1, ?_⟩
    rw [List.findIdx?_cons, h2]
    rfl
mutual
theorem pg_ok {X : Cx} {sc : Scope} (hc : X.calm = true) (hN : X.N.Nodup) (L : LocOk X sc) : ∀ (t : Tg) {e : Expr}, mTg X.N sc t e = true → PG X e (gB G t) := fun t e h => by
  cases t with
  | name i =>
    cases e <;> try exact no h rfl
    rename_i x pos
    have h : (decide (X.N[i]? = some x) && locB sc x true) = true := h
    simp only [Bool.and_eq_true, decide_eq_true_eq] at h
    obtain ⟨h1, h2⟩ := L x h.2
    refine PG.imp (pg_name hN h.1 h1 h2) fun v σ H Q ⟨w, t, sl, sl', e, ok, hs, r, hb, k⟩ => ?_
    simp only [bindT, Option.some.injEq] at hb
    subst hb e
    exact k _ (hs.set i r) fun vs hv => wipe_set (hv i (by simp [Tg.vars]))
  | tup ts =>
    cases e <;> try exact no h rfl
    rename_i es kk pos
    have h : mTgs X.N sc ts es = true := h
    obtain ⟨h1, h2⟩ := each_all X.env h
    refine PG.imp (PG.or (pg_tup hc (pgs_ok hc hN L ts h) h1 h2) (pg_lst hc (pgs_ok hc hN L ts h) h1 h2)) fun v σ H Q ⟨w, t, sl, sl', e, ok, hs, r, hb, k⟩ => ?_
    simp only [bindT] at hb
    subst e
    split at hb
    · rename_i xs q
      obtain ⟨a, vs, rfl, ha, cs⟩ := lsq_of0 ok r q
      rcases ha with ha | ha
      · exact .inl ⟨a, vs, rfl, SqT.of ha, (cs.length.trans (bindL_len hb)), w, xs, sl, sl', rfl, ok, hs, cs, hb, fun σ' hs' hw => k σ' hs' fun vs hv => hw vs (by simpa [Tg.vars] using hv)⟩
      · exact .inr ⟨a, vs, rfl, SqL.of ha, (cs.length.trans (bindL_len hb)), w, xs, sl, sl', rfl, ok, hs, cs, hb, fun σ' hs' hw => k σ' hs' fun vs hv => hw vs (by simpa [Tg.vars] using hv)⟩
    · cases hb
theorem pgs_ok {X : Cx} {sc : Scope} (hc : X.calm = true) (hN : X.N.Nodup) (L : LocOk X sc) : ∀ (ts : List Tg) {es : List Expr}, mTgs X.N sc ts es = true → PGs X es (gBs G ts) := fun ts es h => by
  cases ts with
  | nil =>
    cases es with
    | cons _ _ => exact no h rfl
    | nil =>
      refine PGs.imp pgs_nil fun xs σ H Q ⟨w, ts, sl, sl', e, ok, hs, r, hb, k⟩ => ?_
      cases ts with
      | cons _ _ => cases hb
      | nil =>
        cases r
        cases hb
        subst e
        exact ⟨rfl, k σ hs fun _ _ => rfl⟩
  | cons t ts =>
    cases es with
    | nil => exact no h rfl
    | cons e es =>
      have h : (mTg X.N sc t e && mTgs X.N sc ts es) = true := h
      rw [Bool.and_eq_true] at h
      refine PGs.imp (pgs_cons (pg_ok hc hN L t h.1) (pgs_ok hc hN L ts h.2) (by rw [each_cons h.1]; rfl)) fun xs σ H Q ⟨w, us, sl, sl', e, ok, hs, r, hb, k⟩ => ?_
      cases us with
      | nil => cases hb
      | cons u us =>
        cases r with
        | cons r rs =>
          rename_i v0 v0s
          simp only [bindL] at hb
          split at hb
          · rename_i sl1 hb1
            subst e
            refine ⟨_, _, rfl, w, u, sl, sl1, rfl, ok, hs, r, hb1, fun σ1 hs1 hw1 => ?_⟩
            exact ⟨w, us, sl1, sl', rfl, ok, hs1, rs, hb, fun σ' hs' hw => k σ' hs' fun zs hz => (hw zs fun i hi => hz i (by simp [varsL, hi])).trans (hw1 zs fun i hi => hz i (by simp [varsL, hi]))⟩
          · cases hb
theorem bindL_len {st : Store} {ts : List Tg} {xs : List T} {sl sl' : Slots} (h : bindL st ts xs sl = some sl') : xs.length = ts.length := by
  cases ts with
  | nil =>
    cases xs with
    | nil => rfl
    | cons _ _ => cases h
  | cons t ts =>
    cases xs with
    | nil => cases h
    | cons x xs =>
      simp only [bindL] at h
      split at h
      · exact congrArg Nat.succ (bindL_len h)
      · cases h
end
/-! ### blocks -/
def W0 : WX := fun _ _ _ _ => False
theorem Ctx.blk {X : Cx} {sc : Scope} {W : WX} (c : Ctx G P tb n X sc W) (s : Shared) (H : Hp) (scope : Scope) (cl : List (Str × Addr)) (C : Addr) (fp : List Addr) : Ctx G P tb n (X.blk s H scope (compEnvC scope cl C X.env) fp) (relB sc scope) W0 where
  K := c.K
  mg := c.mg
  wd := c.wd
  nd := c.nd
  sc := by
    have := c.sc
    subst this
    rfl
  calm := c.calm
  room := c.room
  tk := fun u s' ⟨_, _, _, _, _, _, _, _, _, _, _, _, _, _, _, _, h⟩ => h.elim
  fns := c.fns
  fns1 := c.fns1
  gl := c.gl
theorem lookup_relB {sc : Scope} {x : Str} {k : NameKind} (hk : k ≠ .free) : ∀ {names : List (Str × NameKind)}, names.lookup x = some k →
    (names.map fun (n, k) => if (k == NameKind.free && sc.kind == .function && sc.names.lookup n == some .cell) then (n, NameKind.cell) else (n, k)).lookup x = some k
  | [], h => by simp at h
  | (m, j) :: r, h => by
    rw [List.map_cons]
    by_cases e : x == m
    · simp only [List.lookup_cons, e, Option.some.injEq] at h
      subst h
      have : (j == NameKind.free) = false := by cases j <;> first | rfl | exact absurd rfl hk
      simp only [this, Bool.false_and, Bool.false_eq_true, if_false, List.lookup_cons, e]
    · have e : (x == m) = false := by simpa using e
      simp only [List.lookup_cons, e] at h
      have := lookup_relB (sc := sc) hk h
      show List.lookup x ((if (j == NameKind.free && sc.kind == .function && sc.names.lookup m == some .cell) = true then (m, NameKind.cell) else (m, j)) :: _) = some k
      split
      · rw [List.lookup_cons, e]
        exact this
      · rw [List.lookup_cons, e]
        exact this
theorem locOk_blk {X : Cx} {sc : Scope} (e : X.env.scope = sc) (s : Shared) (H : Hp) (scope : Scope) (cl : List (Str × Addr)) (C : Addr) (fp : List Addr) : LocOk (X.blk s H scope (compEnvC scope cl C X.env) fp) scope := by
  intro x h
  subst e
  have hl : scope.names.lookup x = some .local ∨ scope.names.lookup x = some .cell := by
    unfold locB at h
    split at h
    · exact .inl (by assumption)
    · exact .inr (by assumption)
    · cases h
  rcases hl with q | q
  · have q2 : (relB X.env.scope scope).names.lookup x = some .local := lookup_relB (by simp) q
    exact ⟨.inl q2, .inr q2⟩
  · have q2 : (relB X.env.scope scope).names.lookup x = some .cell := lookup_relB (by simp) q
    refine ⟨.inr q2, .inl ?_⟩
    show (scope.names.lookup x == some .cell) = true
    rw [q]
    rfl
end PC
namespace PC
open PySem PySem.Spec PyProof.Rows L2
variable {G : Glb} {P : Prog} {tb : Tab} {n : Nat}
/-! ### a thing of one's own, written -/
def Wd.put (w : Wd) (D : Addr) (o : HO) : Wd := ⟨upd w.H D o, w.r, w.st, w.S⟩
theorem put_kS {w : Wd} {D : Addr} {o : HO} (nS : ¬ w.S D) : ∀ b u, w.S b → w.H b = some u → (w.put D o).H b = some u := fun b u s h => by
  show upd w.H D o b = some u
  rw [upd_ne (show b ≠ D from fun e => nS (e ▸ s))]
  exact h
theorem Wd.Ok.put {w : Wd} (ok : w.Ok G) {D : Addr} {o : HO} (nr : D ∉ w.r) (nS : ¬ w.S D) : (w.put D o).Ok G := by
  refine ⟨ok.len, ok.nd, fun k a t h1 h2 => ?_, fun b s => ?_⟩
  · have hne : a ≠ D := fun e => nr (e ▸ List.mem_of_getElem? h1)
    exact CellOk.mono (w := w) (w' := w.put D o) (fun _ s => s) (fun n => n) (put_kS nS) (fun u h => by show upd w.H D o a = some u; rw [upd_ne hne]; exact h) (fun _ _ z => z) (ok.cells k a t h1 h2)
  · obtain ⟨u, h⟩ := ok.trk b s
    exact ⟨u, put_kS nS b u s h⟩
theorem Ev.put {w1 w : Wd} (e : Ev w1 w) {D : Addr} {o : HO} (hD : w1.H D = none) : Ev w1 (w.put D o) := by
  refine ⟨e.rho, e.s1, e.s2, fun a u h nl => ?_, fun a u h => ?_, e.live⟩
  · show upd w.H D o a = some u
    rw [upd_ne (show a ≠ D from fun z => by rw [z, hD] at h; cases h)]
    exact e.keep a u h nl
  · by_cases z : a = D
    · exact ⟨o, by rw [z]; exact upd_same⟩
    · obtain ⟨u', h'⟩ := e.there a u h
      exact ⟨u', by show upd w.H D o a = some u'; rw [upd_ne z]; exact h'⟩
/-- the cells at ks are free again -/
theorem unlock_ok {w : Wd} : ∀ (ks : List Nat) {st : Store}, Wd.Ok G ⟨w.H, w.r, st, w.S⟩ → Wd.Ok G ⟨w.H, w.r, unlock ks st, w.S⟩ ∧ ∀ a, Live ⟨w.H, w.r, unlock ks st, w.S⟩ a → Live ⟨w.H, w.r, st, w.S⟩ a ∨ ∃ k ∈ ks, w.r[k]? = some a
  | [], st, ok => ⟨ok, fun _ l => .inl l⟩
  | k :: ks, st, ok => by
    unfold unlock
    split
    · rename_i g o xs q
      have hk : k < st.length := (List.getElem?_eq_some_iff.mp q).1
      obtain ⟨a, ha, c⟩ := ok.cell q
      have ha : w.r[k]? = some a := ha
      have c1 : CellOk G ⟨w.H, w.r, st, w.S⟩ k a (.nd g (unlockOw o) xs) := by cases o <;> exact c
      have ok1 : Wd.Ok G ⟨w.H, w.r, st.set k (.nd g (unlockOw o) xs), w.S⟩ := by
        refine ⟨by simpa using ok.len, ok.nd, fun j b t q1 q2 => ?_, ok.trk⟩
        have q2 : (st.set k (.nd g (unlockOw o) xs))[j]? = some t := q2
        by_cases e : k = j
        · subst e
          have eb : a = b := Option.some.inj (ha.symm.trans q1)
          subst eb
          rw [List.getElem?_set_self hk] at q2
          cases q2
          exact c1
        · rw [List.getElem?_set_ne e] at q2
          exact ok.cells j b t q1 q2
      obtain ⟨h1, h2⟩ := unlock_ok (w := w) ks ok1
      refine ⟨h1, fun b l => ?_⟩
      rcases h2 b l with l | ⟨j, hj, hb⟩
      · obtain ⟨j, g', o', ys, q1, q2, q3⟩ := l
        have q2 : (st.set k (.nd g (unlockOw o) xs))[j]? = some (.nd g' o' ys) := q2
        by_cases e : k = j
        · exact .inr ⟨k, by simp, by rw [e]; exact q1⟩
        · rw [List.getElem?_set_ne e] at q2
          exact .inl ⟨j, g', o', ys, q1, q2, q3⟩
      · exact .inr ⟨j, by simp [hj], hb⟩
    · obtain ⟨h1, h2⟩ := unlock_ok (w := w) ks ok
      exact ⟨h1, fun b l => (h2 b l).imp id fun ⟨j, hj, hb⟩ => ⟨j, by simp [hj], hb⟩⟩
theorem unlock_ev {w w1 w2 : Wd} {ks : List Nat} (e : Ev w w1) (e2 : Ev w1 w2) (ok : w2.Ok G) (h : ∀ k ∈ ks, ∀ a, w1.r[k]? = some a → Live w a ∨ w.H a = none) :
    Wd.Ok G ⟨w2.H, w2.r, unlock ks w2.st, w2.S⟩ ∧ Ev w ⟨w2.H, w2.r, unlock ks w2.st, w2.S⟩ := by
  obtain ⟨h1, h2⟩ := unlock_ok (w := w2) ks ok
  have ev := e.trans e2
  refine ⟨h1, ev.rho, ev.s1, ev.s2, ev.keep, ev.there, fun a l => ?_⟩
  rcases h2 a l with l | ⟨k, hk, ha⟩
  · exact ev.live a l
  · obtain ⟨m, em, nm⟩ := e2.rho
    rw [em] at ha
    by_cases hl : k < w1.r.length
    · rw [List.getElem?_append_left hl] at ha
      exact h k hk a ha
    · rw [List.getElem?_append_right (Nat.le_of_not_lt hl)] at ha
      exact .inr (e.non_ (nm a (List.mem_of_getElem? ha)))
/-! ### comprehensions -/
/-- the things that have come -/
def AccR (G : Glb) (x : Bool) (w : Wd) (acc : List V) (ys : List T) (F : List Addr) : Prop := (x = true ∧ w.ROs G acc ys F) ∨ (x = false ∧ F = [] ∧ w.RCs G acc ys)
theorem AccR.ev {x : Bool} {w w' w0 : Wd} {acc : List V} {ys : List T} {F : List Addr} (h : AccR G x w acc ys F) (e : Ev w w') (ok : w.Ok G) (o : Own w0 w F) : AccR G x w' acc ys F := by
  rcases h with ⟨rfl, h⟩ | ⟨rfl, rfl, h⟩
  · exact .inl ⟨rfl, e.ros ok o h⟩
  · exact .inr ⟨rfl, rfl, e.rcs ok h⟩
theorem AccR.mv {x : Bool} {w w' : Wd} {acc : List V} {ys : List T} {F F' : List Addr} (h : AccR G x w acc ys F) (m : Mv G w w' F') : AccR G x w' acc ys F := by
  rcases h with ⟨rfl, h⟩ | ⟨rfl, rfl, h⟩
  · exact .inl ⟨rfl, m.ros h⟩
  · exact .inr ⟨rfl, rfl, m.rcs h⟩
theorem AccR.put {x : Bool} {w : Wd} {acc : List V} {ys : List T} {F : List Addr} {D : Addr} {o : HO} (h : AccR G x w acc ys F) (nS : ¬ w.S D) (nF : D ∉ F) : AccR G x (w.put D o) acc ys F := by
  rcases h with ⟨rfl, h⟩ | ⟨rfl, rfl, h⟩
  · exact .inl ⟨rfl, h.mono (fun _ s => s) (fun a u s q => put_kS nS a u s q) (fun _ _ q => q) fun a ha u q => by
      show upd w.H D o a = some u
      rw [upd_ne (show a ≠ D from fun e => nF (e ▸ ha))]
      exact q⟩
  · exact .inr ⟨rfl, rfl, h.mono (fun _ s => s) fun a u s q => put_kS nS a u s q⟩
theorem AccR.len {x : Bool} {w : Wd} {acc : List V} {ys : List T} {F : List Addr} (h : AccR G x w acc ys F) : acc.length = ys.length := by
  rcases h with ⟨rfl, h⟩ | ⟨rfl, rfl, h⟩
  · exact h.length
  · exact h.length
theorem noX_ok {r : R T} {g : T → Store → R (Option T)} {W : WX} {w : Wd} {σ : L2.St} {Q : VK} {k : Option T → Store → R T} (h : Post G W w σ (((noX r).bind g).bind k) Q) : ∃ t st, r = .ok t st ∧ Post G W w σ ((g t st).bind k) Q := by
  cases r with
  | ok t st => exact ⟨t, st, rfl, h⟩
  | exc c st => exact h.elim
  | bad => exact h.elim
theorem PTs.imp {X : Cx} {ifs : List Expr} {t t' : TT} (h : PTs X ifs t) (i : ∀ σ H Q, t' σ H Q → t σ H Q) : PTs X ifs t' := ⟨fun pins s σ H Q I q => h.run pins s σ H Q I (i σ H Q q)⟩
theorem compGo_bind {f : T → Store → R (Option T)} {t : T} {ts : List T} {st : Store} {k : List T → Store → R T} : (compGo f (t :: ts) st).bind k = (f t st).bind fun o st1 => (compGo f ts st1).bind fun ys st2 => k (match o with
    | some y => y :: ys
    | none => ys) st2 := by
  simp only [compGo]
  cases f t st with
  | bad => rfl
  | exc c st => rfl
  | ok o st1 =>
    simp only [R.bind]
    cases compGo f ts st1 <;> rfl
theorem comp_core {W : WX} {elt c : E} {x : Bool} {tg : Tg} {it : It} {w : Wd} {σ : L2.St} {sl : Slots} {Q : VK} (ok : w.Ok G) (hs : SlotR G w σ sl)
    (h : Post G W w σ (evE P (callN P n) (.comp elt x tg it c) sl w.st) Q) :
    tLc (tIv G W (evIt P (callN P n) it)) (gB G tg) (tTv G W0 (evE P (callN P n) c)) (tEv G W0 (evE P (callN P n) elt)) tg.vars σ w.H Q := by
  refine ⟨w, sl, rfl, ok, hs, ?_⟩
  simp only [evE] at h
  cases q : evIt P (callN P n) it sl w.st with
  | bad => rw [q] at h; exact h
  | exc k st => rw [q] at h; exact h
  | ok p st1 =>
    obtain ⟨ts, ks⟩ := p
    rw [q] at h
    simp only [R.bind] at h
    split at h
    · rename_i hlen
      have hlen := lenOk_le hlen
      obtain ⟨f, hf⟩ : ∃ f, f = compF (fun sl st => evE P (callN P n) c sl st) (fun sl st => evE P (callN P n) elt sl st) x tg (wipeS sl tg.vars) := ⟨_, rfl⟩
      obtain ⟨ox, hox⟩ : ∃ o, o = (if x then Ow.opn else Ow.own) := ⟨_, rfl⟩
      rw [← hf, ← hox] at h
      intro J w1 e1 ev1 ok1 wk lks D hD
      subst e1
      have oD : Own w1 (w1.addO D (.lst [])) [D] := Own.nil.cons Ev.refl ok1 (by simp) hD
      refine ⟨fun i m H => m = ts.length - i ∧ i ≤ ts.length ∧ ∃ (wi : Wd) (acc : List V) (ys : List T) (F : List Addr), wi.H = H ∧ Ev w1 wi ∧ wi.Ok G ∧ wi.H D = some (.lst acc) ∧ AccR G x wi acc ys F ∧ Own w1 wi (D :: F) ∧ acc.length ≤ i ∧
        Post G W w σ ((compGo f (ts.drop i) wi.st).bind fun zs st => .ok (.nd .lst ox (ys ++ zs)) (unlock ks st)) Q, ?_, ?_⟩
      · exact ⟨ts.length, by simp, Nat.zero_le _, w1.addO D (.lst []), [], [], [], rfl, Ev.addO hD, ok1.addO hD, upd_same, by cases x with
          | true => exact .inl ⟨rfl, .nil⟩
          | false => exact .inr ⟨rfl, rfl, .nil⟩, oD, Nat.zero_le _, h⟩
      · rintro i m H ⟨rfl, hi, wi, acc, ys, F, rfl, evi, oki, hDi, ar, ow, hal, h⟩
        by_cases hlt : i < ts.length
        · refine .inr ?_
          have hget : ts[i]? = some ts[i] := List.getElem?_eq_getElem hlt
          obtain ⟨hgo, hy⟩ := wk.go wi i ts[i] evi oki hget
          refine ⟨hgo, _, fun H' nx => ⟨ts.length - (i + 1), by omega, nx⟩, fun v H' y => ?_⟩
          obtain ⟨w3, rfl, e3, ev3, ok3, r3⟩ := hy v H' y
          rw [List.drop_eq_getElem_cons hlt, compGo_bind] at h
          rw [← e3] at h
          have ev13 := evi.trans ev3
          have evw3 := ev1.trans ev13
          have hs3 : SlotR G w3 (wipe σ tg.vars) (wipeS sl tg.vars) := (hs.mono evw3 ok).wipe tg.vars
          rw [show f ts[i] w3.st = compF (fun sl st => evE P (callN P n) c sl st) (fun sl st => evE P (callN P n) elt sl st) x tg (wipeS sl tg.vars) ts[i] w3.st from by rw [hf]] at h
          unfold compF at h
          cases hb : bindT w3.st tg ts[i] (wipeS sl tg.vars) with
          | none => rw [hb] at h; exact h.elim
          | some sl' =>
            rw [hb] at h
            simp only at h
            refine ⟨w3, ts[i], _, sl', rfl, ok3, hs3, r3, hb, fun σ2 hs2 hw => ⟨(hw tg.vars fun _ z => z).trans wipe_idem, w3, sl', rfl, ok3, hs2, ?_⟩⟩
            obtain ⟨b, st4, hc, h⟩ := noX_ok h
            rw [hc]
            intro bv w4 F4 e4 ev4 ok4 r4 o4
            subst e4
            have own4 : Own w1 w4 (D :: F) := (ow.mono ev3 ?_).mono ev4 ?_
            rotate_left
            · intro a ha
              rcases List.mem_cons.mp ha with e | ha
              · rw [e]; exact ⟨_, hDi⟩
              · rcases ar with ⟨_, h⟩ | ⟨_, rfl, _⟩
                · exact RepOs.trk h a ha
                · simp at ha
            · intro a ha
              refine (show ∃ o, w3.H a = some o from ?_)
              have : ∃ o, wi.H a = some o := by
                rcases List.mem_cons.mp ha with e | ha
                · rw [e]; exact ⟨_, hDi⟩
                · rcases ar with ⟨_, h⟩ | ⟨_, rfl, _⟩
                  · exact RepOs.trk h a ha
                  · simp at ha
              obtain ⟨o, q⟩ := this
              exact ev3.there a o q
            have ow3 : Own w1 w3 (D :: F) := ow.mono ev3 fun a ha => by
              rcases List.mem_cons.mp ha with e | ha
              · rw [e]; exact ⟨_, hDi⟩
              · rcases ar with ⟨_, h⟩ | ⟨_, rfl, _⟩
                · exact RepOs.trk h a ha
                · simp at ha
            have owF : Own w1 wi F := ow.sub (List.sublist_cons_self _ _)
            have ar3 := ar.ev ev3 oki owF
            have ar4 := ar3.ev ev4 ok3 (ow3.sub (List.sublist_cons_self _ _))
            have hD3 : w3.H D = some (.lst acc) := ev3.keep D _ hDi fun l => ow.nr D (by simp) l.mem
            have hD4 : w4.H D = some (.lst acc) := ev4.keep D _ hD3 fun l => ow3.nr D (by simp) l.mem
            have ev14 := ev13.trans ev4
            have hdrop : ts.drop (i + 1) = (ts.drop i).tail := by rw [List.tail_drop]
            unfold compB at h
            split at h
            · obtain ⟨rfl, rfl⟩ := RO_bl r4
              refine ⟨false, rfl, ?_⟩
              simp only [Bool.false_eq_true, if_false]
              exact ⟨trivial, hlt, w4, acc, ys, F, rfl, ev14, ok4, hD4, ar4, own4, Nat.le_succ_of_le hal, h⟩
            · obtain ⟨rfl, rfl⟩ := RO_bl r4
              refine ⟨true, rfl, ?_⟩
              simp only [if_true]
              obtain ⟨y, st5, he, h⟩ := noX_ok h
              refine ⟨w4, sl', rfl, ok4, hs2.mono ev4 ok3, ?_⟩
              rw [show evE P (callN P n) elt sl' w4.st = R.ok y st5 from he]
              intro yv w5 F5 e5 ev5 ok5 r5 o5
              subst e5
              have trk4 : ∀ a ∈ D :: F, ∃ o, w4.H a = some o := fun a ha => by
                rcases List.mem_cons.mp ha with e | ha
                · rw [e]; exact ⟨_, hD4⟩
                · rcases ar4 with ⟨_, h⟩ | ⟨_, rfl, _⟩
                  · exact RepOs.trk h a ha
                  · simp at ha
              have own5 : Own w1 w5 (D :: F) := own4.mono ev5 trk4
              have ar5 := ar4.ev ev5 ok4 (own4.sub (List.sublist_cons_self _ _))
              have hD5 : w5.H D = some (.lst acc) := ev5.keep D _ hD4 fun l => own4.nr D (by simp) l.mem
              have ev15 := ev14.trans ev5
              have ownB : Own w1 w5 ((D :: F) ++ F5) := own5.both o5 ev14 trk4
              have dnF : D ∉ F := (List.nodup_cons.mp ow.nd).1
              refine ⟨acc, hD5, by omega, ?_⟩
              unfold compP at h
              cases x with
              | true =>
                simp only [if_true, R.bind] at h
                have nS := ownB.ns D (by simp)
                have nr := ownB.nr D (by simp)
                have ndB := ownB.nd
                have arA : AccR G true w5 (acc ++ [yv]) (ys ++ [y]) (F ++ F5) := by
                  rcases ar5 with ⟨_, h⟩ | ⟨z, _⟩
                  · exact .inl ⟨rfl, h.append (by have := RepOs.cons r5 .nil; simpa using this)⟩
                  · cases z
                refine ⟨trivial, hlt, w5.put D (.lst (acc ++ [yv])), acc ++ [yv], ys ++ [y], F ++ F5, rfl, ev15.put hD, ok5.put nr nS, upd_same, arA.put nS (by
                  have z : (¬D ∈ F ∧ ¬D ∈ F5) ∧ (F ++ F5).Nodup := by simpa using ndB
                  simpa using z.1), ?_, ?_, ?_⟩
                · exact ⟨by simpa using ownB.nd, fun a ha => ownB.new a (by simpa using ha), fun a ha => ownB.ns a (by simpa using ha), fun a ha => ownB.nr a (by simpa using ha)⟩
                · rw [List.length_append, List.length_singleton]; omega
                · show Post G W w σ ((compGo f (List.drop (i + 1) ts) w5.st).bind fun zs st => R.ok (T.nd Tag.lst ox (ys ++ [y] ++ zs)) (unlock ks st)) Q
                  simpa using h
              | false =>
                simp only [Bool.false_eq_true, if_false] at h
                split at h
                · rename_i y' st6 hf
                  obtain ⟨w6, e6, m6, c6⟩ := fz_ok y ok5 r5 (o5.back ev14) hf
                  subst e6
                  have dj := List.nodup_append.mp ownB.nd
                  have own6 : Own w1 w6 (D :: F) := m6.own own5 fun a ha hb => dj.2.2 a ha a hb rfl
                  have ar6 := ar5.mv m6
                  have ev16 : Ev w1 w6 := m6.ev ev15 fun a ha => ownB.new a (List.mem_append_right _ ha)
                  have nS := own6.ns D (by simp)
                  have nr := own6.nr D (by simp)
                  have arA : AccR G false w6 (acc ++ [yv]) (ys ++ [y']) F := by
                    rcases ar6 with ⟨z, _⟩ | ⟨_, rfl, h⟩
                    · cases z
                    · exact .inr ⟨rfl, rfl, h.append (.cons c6 .nil)⟩
                  rw [← m6.H]
                  refine ⟨trivial, hlt, w6.put D (.lst (acc ++ [yv])), acc ++ [yv], ys ++ [y'], F, rfl, ev16.put hD, m6.ok.put nr nS, upd_same, arA.put nS dnF, ⟨own6.nd, own6.new, own6.ns, own6.nr⟩, ?_, ?_⟩
                  · rw [List.length_append, List.length_singleton]; omega
                  · show Post G W w σ ((compGo f (List.drop (i + 1) ts) w6.st).bind fun zs st => R.ok (T.nd Tag.lst ox (ys ++ [y'] ++ zs)) (unlock ks st)) Q
                    simpa using h
                · exact h.elim
            · exact h.elim
        · have e : i = ts.length := by omega
          subst e
          refine .inl ⟨wk.stop wi evi oki, ?_⟩
          rw [List.drop_length] at h
          simp only [compGo, R.bind, List.append_nil] at h
          obtain ⟨oku, evu⟩ := unlock_ev ev1 evi oki lks
          have owu : Own w (⟨wi.H, wi.r, unlock ks wi.st, wi.S⟩ : Wd) (D :: F) := by
            have := ow.back ev1
            exact ⟨this.nd, this.new, this.ns, this.nr⟩
          refine h (.ref D) ⟨wi.H, wi.r, unlock ks wi.st, wi.S⟩ (D :: F) rfl evu oku ?_ owu
          rcases ar with ⟨rfl, h⟩ | ⟨rfl, rfl, h⟩
          · rw [hox]; exact .opn (g := .lst) hDi h
          · rw [hox]; exact .own (g := .lst) hDi h
    · exact h.elim
theorem c_comp {elt c : E} {x : Bool} {tg : Tg} {it : It} (ie : SE G P tb n elt) (ii : SI G P tb n it) (ic : ST G P tb n c) : SE G P tb n (.comp elt x tg it c) := by
  intro X sc W p ctx h
  obtain ⟨ee, etg, ei, ifs, scope, pos, rfl, h1, h2, h3, h4, h5, h6⟩ := inv_comp h
  obtain ⟨pi, pl⟩ := ii X sc W ei etg ctx h4
  have ok : BlkOk X.N X.env.scope scope (tgOwn tg etg) := blkOk_by (by rw [ctx.sc]; exact h1)
  have := pe_lc (X := X) (pos := pos) (elt := ee) (ifs := ifs) (tt := tTv G W0 (evE P (callN P n) c)) (te := tEv G W0 (evE P (callN P n) elt)) (g := gB G tg) ctx.calm ctx.nd pi ok
    (fun s H C cl fp => pg_ok (X := X.blk s H scope (compEnvC scope cl C X.env) fp) ctx.calm ctx.nd (locOk_blk ctx.sc s H scope cl C fp) tg h3)
    (fun s H C cl fp => by
      rcases h5 with ⟨rfl, rfl⟩ | ⟨q, rfl, h5⟩
      · exact PTs.imp pts_nil fun σ H Q ⟨w, sl, e, ok, hs, h⟩ => by
          subst e
          obtain ⟨b, e, q⟩ := Post.fin (t := .bl true) (v := .bl true) h rfl Ev.refl ok (.cl (.bl _))
          cases e
          exact q
      · exact pts_one (ic _ _ _ _ (ctx.blk s H scope cl C fp) h5))
    (fun s H C cl fp => ie _ _ _ _ (ctx.blk s H scope cl C fp) h6)
    (fun v => fold_plain pl _ v)
  rw [h2] at this
  exact PE.imp this fun σ H Q ⟨w, sl, e, ok, hs, h⟩ => by
    subst e
    exact comp_core ok hs h
end PC
namespace PC
open PySem PySem.Spec PyProof.Rows L2
variable (G : Glb) (P : Prog) (tb : Tab) (n : Nat)
/-! ### all expressions -/
mutual
theorem okE : ∀ e : E, SE G P tb n e ∧ ST G P tb n e
  | .lit _ => ⟨c_lit, t_lit⟩
  | .var _ => ⟨c_var, t_var⟩
  | .glb _ _ => ⟨c_glb, fun X sc W p c h => by cases p <;> exact no h rfl⟩
  | .bin _ a b => ⟨c_bin (okE a).1 (okE b).1, fun X sc W p c h => by cases p <;> exact no h rfl⟩
  | .neg a => ⟨c_neg (okE a).1, fun X sc W p c h => by cases p <;> exact no h rfl⟩
  | .not a => ⟨c_not (okE a).1, t_not (okE a).2⟩
  | .cmp _ a b => ⟨c_cmp (okE a).1 (okE b).1, t_cmp (okE a).1 (okE b).1⟩
  | .chain _ _ a b c => ⟨c_chain (okE a).1 (okE b).1 (okE c).1, t_chain (okE a).1 (okE b).1 (okE c).1⟩
  | .and a b => ⟨c_and (okE a).1 (okE b).1, t_and (okE a).2 (okE b).2⟩
  | .or a b => ⟨c_or (okE a).1 (okE b).1, t_or (okE a).2 (okE b).2⟩
  | .ife c a b => ⟨c_ife (okE c).2 (okE a).1 (okE b).1, fun X sc W p c h => by cases p <;> exact no h rfl⟩
  | .tup es => ⟨c_tup (okEs es), fun X sc W p c h => by cases p <;> exact no h rfl⟩
  | .tupX es => ⟨c_tupX (okEs es), fun X sc W p c h => by cases p <;> exact no h rfl⟩
  | .lst es => ⟨c_lst (okEs es), fun X sc W p c h => by cases p <;> exact no h rfl⟩
  | .lstX es => ⟨c_lstX (okEs es), fun X sc W p c h => by cases p <;> exact no h rfl⟩
  | .dic _ _ => ⟨c_dic, fun X sc W p c h => by cases p <;> exact no h rfl⟩
  | .idx a b => ⟨c_idx (okE a).1 (okE b).1, t_idx (okE a).1 (okE b).1⟩
  | .slc a l h => ⟨c_slc (okE a).1 (okE l).1 (okE h).1, fun X sc W p c h => by cases p <;> exact no h rfl⟩
  | .dis a b => ⟨c_dis (okE a).1 (okE b).1, fun X sc W p c h => by cases p <;> exact no h rfl⟩
  | .lrng a => ⟨c_lrng (okE a).1, fun X sc W p c h => by cases p <;> exact no h rfl⟩
  | .minD a => ⟨c_minD (okE a).1, fun X sc W p c h => by cases p <;> exact no h rfl⟩
  | .back a => ⟨c_back (okE a).1, fun X sc W p c h => by cases p <;> exact no h rfl⟩
  | .nop => ⟨fun X sc W p c h => (inv_nop h).elim, fun X sc W p c h => by cases p <;> exact no h rfl⟩
  | .call _ es => ⟨c_call (okEs es), t_call (okEs es)⟩
  | .make _ es => ⟨c_make (okEs es), fun X sc W p c h => by cases p <;> exact no h rfl⟩
  | .meth _ o es => ⟨c_meth (okE o).1 (okEs es), t_meth (okE o).1 (okEs es)⟩
  | .fld o _ => ⟨c_fld (okE o).1, fun X sc W p c h => by cases p <;> exact no h rfl⟩
  | .bi _ es => ⟨c_bi (okEs es), t_bi (okEs es)⟩
  | .isi a _ => ⟨c_isi (okE a).1, t_isi (okE a).1⟩
  | .bm _ o es => ⟨c_bm (okE o).1 (okEs es), fun X sc W p c h => by cases p <;> exact no h rfl⟩
  | .comp elt _ _ it c => ⟨c_comp (okE elt).1 (okI it) (okE c).2, fun X sc W p c h => by cases p <;> exact no h rfl⟩
  | .keep _ e => ⟨c_keep (okE e).1, fun X sc W p c h => by cases p <;> exact no h rfl⟩
termination_by structural e => e
theorem okEs : ∀ es : Es, SEs G P tb n es
  | .nil => s_nil
  | .cons e es => s_cons (okE e).1 (okEs es)
termination_by structural es => es
theorem okI : ∀ it : It, SI G P tb n it
  | .seq e => i_seq (okE e).1
  | .rng1 a => i_rng1 (okE a).1
  | .rng2 a b => i_rng2 (okE a).1 (okE b).1
  | .rng3 a b d => i_rng3 (okE a).1 (okE b).1 (okE d).1
  | .enum e => i_enum (okE e).1
  | .zip2 a b => i_zip2 (okE a).1 (okE b).1
  | .zip3 a b c => i_zip3 (okE a).1 (okE b).1 (okE c).1
  | .rev a => i_rev (okE a).1
  | .items _ => fun X sc W p tg c h => by cases p <;> exact no h rfl
termination_by structural it => it
end
end PC
namespace PC
open PySem PySem.Spec PyProof.Rows L2
/-! ### except suites: what is asked of the text -/
def isCompr : Expr → Bool | .ListComp .. => true | .SetComp .. => true | .DictComp .. => true | _ => false
section
variable (tb : Tab) (N : List Str)
def hTy (sc : Scope) (c : Ty) (p : Expr) : Bool := match c, p with
  | .own c, .Name x _ => glB sc x && decide (tb.exc[c]? = some (some x))
  | .valueError, .Name x _ => decide (x = "ValueError") && bltB tb sc x
  | _, _ => false
def hTys (sc : Scope) : List Ty → List Expr → Bool
  | [], [] => true
  | c :: cs, e :: es => hTy tb sc c e && hTys sc cs es
  | _, _ => false
/-- [k for k in range(n) if o[k]] -/
def hmComp (sc : Scope) (e : E) (x : Bool) (tg : Tg) (it : It) (c : E) (ee etg ei : Expr) (ifs : List Expr) (scope : Scope) : Bool := match e, x, tg, it, c, ee, etg, ei, ifs with
  | .var k, false, .name k1, .rng1 (.lit (.int n)), .idx (.var j) (.var k2), .Name x0 _, .Name x1 _, .Call (.Name r _) [.Constant cc _ _] [] _, [.Subscript (.Name y _) (.Name x2 _) _] =>
    (decide (k = k1) && decide (k = k2) && decide (j ≠ k) && decide (0 ≤ n ∧ n ≤ 100)) && (decide (x0 = x1) && decide (x2 = x1) && blkC N sc scope [(x1, k)] && decide (N[k]? = some x1) && locB scope x1 true) &&
      (nameB N (relB sc scope) k x1 && nameB N (relB sc scope) j y) && (decide (r = "range") && bltB tb sc r) && (match litOf cc with
    | some u => eqLit (.int n) u
    | none => false)
  | _, _, _, _, _, _, _, _, _ => false
section
variable (i : Nat)
mutual
def hmE (sc : Scope) (e : E) (p : Expr) : Bool := match e, p with
  | .lit t, .Constant c _ _ => (match litOf c with
    | some u => eqLit t u
    | none => false)
  | .var j, .Name x _ => nameB N sc j x
  | .not a, .UnaryOp .Not ea _ => hmE sc a ea
  | .and a b, .BoolOp .And [ea, eb] _ => hmE sc a ea && hmE sc b eb
  | .or a b, .BoolOp .Or [ea, eb] _ => hmE sc a ea && hmE sc b eb
  | .isi (.var j) cs, .Call (.Name x _) [.Name y _, ec] [] _ => decide (x = "isinstance") && bltB tb sc x && decide (j = i) && nameB N sc j y && (match ec with
    | .Tuple es _ _ => hTys tb sc cs es && !cs.isEmpty && decide (cs.length < 100)
    | ec => hTys tb sc cs [ec])
  | .lst es, .List ps _ => hmEs sc es ps
  | .keep _ e, p => hmE sc e p
  | .call f (.cons (.var j) .nil), .Call (.Name x _) [.Name y _] [] _ => glB sc x && decide (tb.hfn.lookup f = some x) && decide (j = i) && nameB N sc j y
  | .bm m o es, .Call (.Attribute eo m' apos) ps [] pos => hbmOk m && decide (m' = bmNm m) && hmE sc o eo && baseB eo && hmEs sc es ps && (apos.endLine == pos.line) && decide (ps.length < 20)
  | .cmp op a b, .Compare ea [op'] [eb] _ => decide (op = op') && hmE sc a ea && hmE sc b eb && !(behindInMarks op eb)
  | .bin op a b, .BinOp ea op' eb _ => decide (op = op') && hmE sc a ea && hmE sc b eb
  | .idx a b, .Subscript ea eb _ => hmE sc a ea && hmE sc b eb && plainB eb
  | .comp e x tg it c, .ListComp ee [⟨etg, ei, ifs, 0⟩] scope _ => hmComp tb N sc e x tg it c ee etg ei ifs scope
  | _, _ => false
termination_by structural e
def hmEs (sc : Scope) (es : Es) (ps : List Expr) : Bool := match es, ps with
  | .nil, [] => true
  | .cons e es, p :: ps => hmE sc e p && plainB p && hmEs sc es ps
  | _, _ => false
termination_by structural es
end
end
section
variable (i : Nat)
def hmT (sc : Scope) (e : E) (p : Expr) : Bool := match e, p with
  | .not a, .UnaryOp .Not ea _ => hmT sc a ea
  | .and a b, .BoolOp .And [ea, eb] _ => hmT sc a ea && hmT sc b eb
  | .or a b, .BoolOp .Or (ea :: eb :: es) pos => hmT sc a ea && (match es with
    | [] => hmT sc b eb
    | ec :: es => hmT sc b (.BoolOp .Or (eb :: ec :: es) pos))
  | .cmp op a b, .Compare ea [op'] [eb] _ => decide (op = op') && hmE tb N i sc a ea && hmE tb N i sc b eb && !(behindInMarks op eb)
  | e, p => hmE tb N i sc e p && truthB p
mutual
def hmS (sc : Scope) (s : S) (p : Stmt) : Bool := match s, p with
  | .asg (.name j) e, .Assign [.Name y _] v _ => decide (N[j]? = some y) && locB sc y true && hmE tb N i sc e v && !(isCompr v)
  | .ex e, .Expr v _ => hmE tb N i sc e v && !(isCompr v)
  | .ret e, .Return (some v) _ => hmE tb N i sc e v
  | .ret0, .Return none _ => true
  | .pass, .Pass _ => true
  | .ite c a b, .If ec sa sb _ => hmT tb N i sc c ec && hmSs sc a sa && hmSs sc b sb
  | _, _ => false
termination_by structural s
def hmSs (sc : Scope) (ss : Ss) (ps : List Stmt) : Bool := match ss, ps with
  | .nil, [] => true
  | .cons s ss, p :: ps => hmS sc s p && hmSs sc ss ps
  | _, _ => false
termination_by structural ss
end
end
end
/-- a def that is called with the exception -/
structure HotFn (G : Glb) (P : Prog) (tb : Tab) (f : Nat) (x : Str) (F : Fn) : Prop where
  np : F.np = 1
  ex : ∃ (nm qual : Str) (params : Arguments) (body : List Stmt) (scope : Scope) (N : List Str) (p : Str), FunD G.K nm qual params body scope [] [] (G.fa f) (G.fd f) ∧ FnScope N [p] scope ∧ N.length = F.ns ∧ hmSs tb N 0 scope F.body body = true ∧ Binds G.K (G.fd f) [p] []
  mg : G.mg x = some (.ref (G.fa f))
  kp : PySem.W.keepIn G.K (.ref (G.fa f)) = true
structure HotOk (G : Glb) (P : Prog) (tb : Tab) : Prop where
  ks : ∀ k, P.excs.contains k = true → ∃ x, tb.exc[k]? = some (some x)
  exm : ∀ k c x y, tb.exc[k]? = some (some x) → tb.exc[c]? = some (some y) → PySem.W.exmOne G.K (.ref (G.cls k)) (.ref (G.cls c)) = some (P.sub k (.own c)) ∧ PySem.W.kitOne G.K (.ref (G.cls k)) (.ref (G.cls c)) = some (P.sub k (.own c))
  ve : ∀ k x, tb.exc[k]? = some (some x) → PySem.W.kitOne G.K (.ref (G.cls k)) (.type "ValueError") = some (P.sub k .valueError)
  cl : ∀ k x, tb.exc[k]? = some (some x) → ExcC G.K (G.cls k)
  fn : ∀ f x, tb.hfn.lookup f = some x → ∃ F, P.hfn f = some F ∧ HotFn G P tb f x F
end PC
namespace PC
open PySem PySem.Spec PyProof.Rows L2
variable {G : Glb} {P : Prog} {tb : Tab} {n : Nat}
/-! ### statements: what is asked of the text -/
def lineB (ts : List Expr) : Nat := (ts.head?.map (·.pos.line)).getD 0
def isStar : Expr → Bool | .Starred .. => true | _ => false
def nmB (env : Env) (line : Nat) : Expr → Option Str
  | .Name id pos => if env.kindOf id == some .local && pos.line == line then some id else none
  | _ => none
theorem sw_tt (ts vs : List Expr) (k k2 : Nat) (p p2 : Pos) (env : Env) : swappedStores [.Tuple ts k p] (.Tuple vs k2 p2) env =
   (if (!(ts.length == 2 || ts.length == 3) || vs.length != ts.length || env.blockKind != .function) = true then pure none else
    if (vs.any isStar) = true then pure none else
    if ((ts.filterMap (nmB env (lineB ts))).length != ts.length || (ts.filterMap (nmB env (lineB ts))).eraseDups.length != (ts.filterMap (nmB env (lineB ts))).length) = true then pure none else
    if vs.all (foldedForSure 8) = true then pure none else
    if vs.all (constantsAlone 8) = true then (do let _ ← (unsupported "assign.tuple-of-constant-expressions:order-of-the-stores" : Sem PUnit); pure (some (ts.filterMap (nmB env (lineB ts))))) else pure (some (ts.filterMap (nmB env (lineB ts))))) := by
  rfl
theorem sw_not (tg value : Expr) (env : Env) (h : ∀ vs k p, value ≠ .Tuple vs k p) : swappedStores [tg] value env = pure none := by
  cases value <;> first | (cases tg <;> rfl) | exact absurd rfl (h _ _ _)
theorem sw_sub (x y : Expr) (px : Pos) (value : Expr) (env : Env) : swappedStores [.Subscript x y px] value env = pure none := by
  cases value <;> rfl
theorem sole_tup (ts : List Expr) (k : Nat) (px : Pos) (value : Expr) (l : Nat) (env : Env) : swapsWithSole [.Tuple ts k px] value l env = pure false := by
  cases value <;> rfl
theorem sole_sub (x y : Expr) (px : Pos) (value : Expr) (l : Nat) (env : Env) : swapsWithSole [.Subscript x y px] value l env = pure false := by
  cases value <;> rfl
theorem sole_att (x : Expr) (y : Str) (px : Pos) (value : Expr) (l : Nat) (env : Env) : swapsWith value (some (.Attribute x y px)) l env = pure false := by
  cases value <;> rfl
def isCallE : Expr → Bool
  | .Call _ _ _ _ => true
  | _ => false
theorem sw_call {t v : Expr} {env : Env} (h : isCallE v = true) : swappedStores [t] v env = pure none := by
  cases v <;> first | (cases h; done) | exact sw_not _ _ _ (by simp)
def swNoneB : Expr → Expr → Bool
  | .List _ _, _ => false
  | .Tuple _ _ _, .Tuple vs _ _ => vs.all (foldedForSure 8)
  | _, _ => true
theorem swNone_ok {t v : Expr} {env : Env} (h : swNoneB t v = true) : swappedStores [t] v env = pure none := by
  cases v with
  | Tuple vs k p =>
    cases t with
    | List _ _ => exact no h rfl
    | Tuple ts k' p' =>
      have h : vs.all (foldedForSure 8) = true := h
      rw [sw_tt, if_pos h]
      split
      · rfl
      · split
        · rfl
        · split <;> rfl
    | _ => rfl
  | _ => exact sw_not _ _ _ (by simp)
def parB (sc : Scope) (ts vs : List Expr) (x y : Str) : Bool := (sc.kind == .function) && !(vs.any isStar) && (lineB ts == lineB ts.tail) && !(vs.all (foldedForSure 8)) && !(vs.all (constantsAlone 8)) && !(x == y) && decide (sc.names.lookup x = some .local) && decide (sc.names.lookup y = some .local)
theorem par_ok {sc : Scope} {env : Env} {x y : Str} {px py p p2 : Pos} {k k2 : Nat} {a b : Expr} (he : env.scope = sc) (h : parB sc [.Name x px, .Name y py] [a, b] x y = true) :
    swappedStores [.Tuple [.Name x px, .Name y py] k p] (.Tuple [a, b] k2 p2) env = pure (some [x, y]) ∧ env.scope.names.lookup x = some .local ∧ env.scope.names.lookup y = some .local := by
  unfold parB at h
  simp only [Bool.and_eq_true, Bool.not_eq_true', decide_eq_true_eq] at h
  obtain ⟨⟨⟨⟨⟨⟨⟨h1, h2⟩, h3⟩, h4⟩, h5⟩, h6⟩, h7⟩, h8⟩ := h
  subst he
  have hk : env.scope.kind = .function := by simpa using h1
  have hb : env.blockKind = .function := by unfold Env.blockKind; rw [hk]; rfl
  have hl : py.line = px.line := by
    have : px.line = py.line := by simpa [lineB, Expr.pos] using h3
    exact this.symm
  have hf : [Expr.Name x px, Expr.Name y py].filterMap (nmB env (lineB [Expr.Name x px, Expr.Name y py])) = [x, y] := by
    have e1 : env.kindOf x = some .local := h7
    have e2 : env.kindOf y = some .local := h8
    simp [List.filterMap_cons, nmB, e1, e2, lineB, Expr.pos, hl]
  refine ⟨?_, h7, h8⟩
  have hd : [x, y].eraseDups.length = 2 := by
    have : (y == x) = false := by
      rw [beq_eq_false_iff_ne]
      have := beq_eq_false_iff_ne.mp h6
      exact fun e => this e.symm
    simp [List.eraseDups_cons, this]
  rw [sw_tt, hf, hb, h2, h4, h5, hd]
  rfl
section
variable (tb : Tab) (N : List Str)
def mPar (sc : Scope) (i j : Nat) (es : Es) (ts : List Expr) (v : Expr) : Bool := match ts, v with
  | [.Tuple [.Name x px, .Name y py] _ _], .Tuple [a, b] _ _ => decide (N[i]? = some x) && decide (N[j]? = some y) && decide (i ≠ j) && mEs tb N sc es [a, b] && parB sc [.Name x px, .Name y py] [a, b] x y
  | _, _ => false
mutual
def mS (sc : Scope) (s : S) (p : Stmt) : Bool := match s, p with
  | .asg tg e, .Assign [t] v _ => mTg N sc tg t && mE tb N sc e v && swNoneB t v
  | .par i j es, .Assign ts v _ => mPar tb N sc i j es ts v
  | .sub o i e, .Assign [.Subscript eo ei _] v _ => mE tb N sc o eo && mE tb N sc i ei && plainB ei && mE tb N sc e v
  | .subn o i j e, .Assign [.Tuple [.Subscript eo ei _, .Name y _] _ _] v _ => (mE tb N sc o eo && mE tb N sc i ei && plainB ei && mE tb N sc e v) && (decide (N[j]? = some y) && locB sc y true) && isCallE v
  | .fld o f e, .Assign [.Attribute eo f' _] v _ => decide (f = f') && mE tb N sc o eo && mE tb N sc e v
  | .ex e, .Expr v _ => mE tb N sc e v && !(isCompr v)
  | .ret e, .Return (some v) _ => mE tb N sc e v
  | .ret0, .Return none _ => true
  | .pass, .Pass _ => true
  | .ite c a b, .If ec sa sb _ => mT tb N sc c ec && mSs sc a sa && mSs sc b sb
  | .for_ tg it b, .For etg ei sb [] _ => mTg N sc tg etg && mI tb N sc it ei etg && mSs sc b sb
  | .whl _ c b, .While ec sb [] _ => mT tb N sc c ec && mSs sc b sb
  | .try_ b (.cons (.own c) (some i) h .nil), .Try sb [.ExceptHandler (some (.Name x _)) (some y) (b0 :: su) _] [] [] _ => tb.tr && mSs sc b sb && (glB sc x && decide (tb.exc[c]? = some (some x))) && (decide (N[i]? = some y) && decide (sc.names.lookup y = some .local)) && hmSs tb N i sc h (b0 :: su)
  | .try_ b (.cons _ none _ .nil), .Try sb [.ExceptHandler (some (.Name _ _)) none (_ :: _) _] [] [] _ => mSs sc b sb
  | .rai c, .Raise (some (.Call (.Name x _) [.Constant (.str _) _ _] [] _)) none _ => glB sc x && decide (tb.exc[c]? = some (some x))
  | _, _ => false
termination_by structural s
def mSs (sc : Scope) (ss : Ss) (ps : List Stmt) : Bool := match ss, ps with
  | .nil, [] => true
  | .cons s ss, p :: ps => mS sc s p && mSs sc ss ps
  | _, _ => false
termination_by structural ss
end
end
/-! ### how a statement ends -/
def PostS (G : Glb) (W : WX) (w : Wd) (D : Ends) (out : RS) : Prop := match out with
  | .nx sl st' => ∀ w' σ, w'.st = st' → Ev w w' → w'.Ok G → SlotR G w' σ sl → D.nx σ w'.H
  | .rt t st' => ∀ v w' F, w'.st = st' → Ev w w' → w'.Ok G → w'.RO G v t F → Own w w' F → D.rt v w'.H
  | .exc c sl st' => ∀ w' σ, w'.st = st' → Ev w w' → w'.Ok G → SlotR G w' σ sl → W (.ref (G.cls c)) none σ w'.H
  | .bad => False
def tSv (G : Glb) (W : WX) (ev : Slots → Store → RS) : TS := fun D σ H => ∃ w sl, w.H = H ∧ w.Ok G ∧ SlotR G w σ sl ∧ PostS G W w D (ev sl w.st)
structure CtxS (G : Glb) (P : Prog) (tb : Tab) (n : Nat) (X : Cx) (sc0 : Scope) (W : WX) : Prop extends Ctx G P tb n X sc0 W where
  loc : LocOk X sc0
  owns : PassesOwn (model X.prog X.w) X.A X.env X.xe
  stk : X.stack = X.env :: X.outer
  frm : X.env.frame = some X.env.locals
  hot : tb.tr = true → HotOk G P tb
section
variable (G : Glb) (P : Prog) (tb : Tab) (n : Nat)
def SS (s : S) : Prop := ∀ (X : Cx) (sc : Scope) (W : WX) (p : Stmt), CtxS G P tb n X sc W → mS tb X.N sc s p = true → PS X p (tSv G W (evS P (callN P n) s))
def SSs (ss : Ss) : Prop := ∀ (X : Cx) (sc : Scope) (W : WX) (ps : List Stmt), CtxS G P tb n X sc W → mSs tb X.N sc ss ps = true → PSs X ps (tSv G W (evSs P (callN P n) ss))
end
theorem PostS.from {W : WX} {w w1 : Wd} {D : Ends} {out : RS} (e : Ev w w1) (h : PostS G W w D out) : PostS G W w1 D out := by
  cases out with
  | nx sl st => exact fun w' σ a b c d => h w' σ a (e.trans b) c d
  | rt t st => exact fun v w' F a b c d o => h v w' F a (e.trans b) c d (o.back e)
  | exc c sl st => exact fun w' σ a b c d => h w' σ a (e.trans b) c d
  | bad => exact h
section
variable {W : WX} {w w1 : Wd} {σ : L2.St} {sl : Slots}
/-- an expression in a statement -/
theorem PostS.bind {ev : Slots → Store → R T} {f : T → Store → RS} {D : Ends} {Q1 : VK} (e1 : Ev w w1) (h : PostS G W w D (RS.of sl (ev sl w1.st) f)) (ok : w1.Ok G) (hs : SlotR G w1 σ sl)
    (k : ∀ x st2 v w2 F, PostS G W w D (f x st2) → w2.st = st2 → Ev w1 w2 → w2.Ok G → w2.RO G v x F → Own w1 w2 F → Q1 v w2.H) : tEv G W ev σ w1.H Q1 := by
  refine ⟨w1, sl, rfl, ok, hs, ?_⟩
  cases q : ev sl w1.st with
  | ok x st2 =>
    rw [q] at h
    exact fun v w2 F a b c d e => k x st2 v w2 F h a b c d e
  | exc c st2 =>
    rw [q] at h
    exact fun w2 a b c => h w2 σ a (e1.trans b) c (hs.mono b ok)
  | bad =>
    rw [q] at h
    exact h
theorem PostS.bindT {ev : Slots → Store → R T} {f : T → Store → RS} {D : Ends} {Q1 : Bool → Hp → Prop} (e1 : Ev w w1) (h : PostS G W w D (RS.of sl (ev sl w1.st) f)) (ok : w1.Ok G) (hs : SlotR G w1 σ sl)
    (k : ∀ x st2 v w2 F, PostS G W w D (f x st2) → w2.st = st2 → Ev w1 w2 → w2.Ok G → w2.RO G v x F → Own w1 w2 F → ∃ b, v = .bl b ∧ Q1 b w2.H) : tTv G W ev σ w1.H Q1 := PostS.bind e1 h ok hs k
theorem PostS.bindL {ev : Slots → Store → R (List T)} {f : List T → Store → RS} {D : Ends} {Q1 : List V → Hp → Prop} (e1 : Ev w w1) (h : PostS G W w D (RS.of sl (ev sl w1.st) f)) (ok : w1.Ok G) (hs : SlotR G w1 σ sl)
    (k : ∀ x st2 v w2 F, PostS G W w D (f x st2) → w2.st = st2 → Ev w1 w2 → w2.Ok G → w2.ROs G v x F → Own w1 w2 F → Q1 v w2.H) : tLv G W ev σ w1.H Q1 := by
  refine ⟨w1, sl, rfl, ok, hs, ?_⟩
  cases q : ev sl w1.st with
  | ok x st2 =>
    rw [q] at h
    exact fun v w2 F a b c d e => k x st2 v w2 F h a b c d e
  | exc c st2 =>
    rw [q] at h
    exact fun w2 a b c => h w2 σ a (e1.trans b) c (hs.mono b ok)
  | bad =>
    rw [q] at h
    exact h
end
/-! ### small statements -/
theorem keep_imp {W : WX} {d : Nat} {e : E} {σ : L2.St} {H : Hp} {Q : VK} (h : tEv G W (evE P (callN P n) (.keep d e)) σ H Q) : tEv G W (evE P (callN P n) e) σ H Q := by
  obtain ⟨w, sl, e, ok, hs, h⟩ := h
  subst e
  refine Post.bind Ev.refl h ok hs fun x st1 v w1 F1 h e1 ev1 ok1 r1 o1 => ?_
  subst e1
  cases q : kp d x w1.st with
  | none => rw [q] at h; exact h.elim
  | some z =>
    obtain ⟨t, st2⟩ := z
    rw [q] at h
    obtain ⟨w2, e2, g2, c2⟩ := kp_ok d x ok1 r1 o1 q
    subst e2
    rw [← g2.H]
    exact h.fin rfl (g2.ev ev1 o1.new) g2.ok c2
theorem asg_imp {X : Cx} {p : Stmt} {t t' : TE} {g : TG} (h : PS X p (tAsg t g)) (i : ∀ σ H Q, t' σ H Q → t σ H Q) : PS X p (tAsg t' g) := PS.imp h fun D σ H q => i σ H _ q
theorem set_comp {X : Cx} {sc : Scope} {W : WX} {i : Nat} {y : Str} {py spos : Pos} {elt0 : Expr} {gs : List Comprehension} {scope : Scope} {pos : Pos} (ctx : Ctx G P tb n X sc W) (hy : X.N[i]? = some y) (hyl : X.env.scope.names.lookup y = some .local)
    (hsw : swapsWith (.ListComp elt0 gs scope pos) (some (.Name y py)) spos.line X.env = pure true) : ∀ e : E, mE tb X.N sc e (.ListComp elt0 gs scope pos) = true →
    PS X (.Assign [.Name y py] (.ListComp elt0 gs scope pos) spos) (tAsg (tEv G W (evE P (callN P n) e)) (gName i)) := by
  intro e
  induction e using E.rec (motive_2 := fun _ => True) (motive_3 := fun _ => True) with
  | keep d e ih => exact fun h => asg_imp (ih (by exact h)) fun σ H Q q => keep_imp q
  | comp elt x tg it c _ _ _ =>
    intro h
    obtain ⟨ee, etg, ei, ifs, scope', pos', hp, h1, h2, h3, h4, h5, h6⟩ := inv_comp h
    cases hp
    obtain ⟨pi, pl⟩ := okI G P tb n it X sc W ei etg ctx h4
    have ok : BlkOk X.N X.env.scope scope (tgOwn tg etg) := blkOk_by (by rw [ctx.sc]; exact h1)
    have := ps_setLc (X := X) (pos := pos) (spos := spos) (py := py) (elt := elt0) (ifs := ifs) (tt := tTv G W0 (evE P (callN P n) c)) (te := tEv G W0 (evE P (callN P n) elt)) (g := gB G tg) ctx.calm ctx.nd hy hyl hsw pi ok
      (fun s H C cl fp => pg_ok (X := X.blk s H scope (compEnvC scope cl C X.env) fp) ctx.calm ctx.nd (locOk_blk ctx.sc s H scope cl C fp) tg h3)
      (fun s H C cl fp => by
        rcases h5 with ⟨rfl, rfl⟩ | ⟨q, rfl, h5⟩
        · exact PTs.imp pts_nil fun σ H Q ⟨w, sl, e, ok, hs, h⟩ => by
            subst e
            obtain ⟨b, e, q⟩ := Post.fin (t := .bl true) (v := .bl true) h rfl Ev.refl ok (.cl (.bl _))
            cases e
            exact q
        · exact pts_one ((okE G P tb n c).2 _ _ _ _ (ctx.blk s H scope cl C fp) h5))
      (fun s H C cl fp => (okE G P tb n elt).1 _ _ _ _ (ctx.blk s H scope cl C fp) h6)
      (fun v => fold_plain pl _ v)
    rw [h2] at this
    exact asg_imp this fun σ H Q ⟨w, sl, e, ok, hs, h⟩ => by
      subst e
      exact comp_core ok hs h
  | _ => first | trivial | exact fun h => no h rfl
theorem no_set {N : List Str} {sc : Scope} {a : Expr} {gs : List Comprehension} {scope : Scope} {pos : Pos} : ∀ e : E, mE tb N sc e (.SetComp a gs scope pos) = true → False := by
  intro e
  induction e using E.rec (motive_2 := fun _ => True) (motive_3 := fun _ => True) with
  | keep d e ih => exact fun h => ih h
  | _ => first | trivial | exact fun h => no h rfl
theorem no_dic {N : List Str} {sc : Scope} {a b : Expr} {gs : List Comprehension} {scope : Scope} {pos : Pos} : ∀ e : E, mE tb N sc e (.DictComp a b gs scope pos) = true → False := by
  intro e
  induction e using E.rec (motive_2 := fun _ => True) (motive_3 := fun _ => True) with
  | keep d e ih => exact fun h => ih h
  | _ => first | trivial | exact fun h => no h rfl
theorem asg_name {X : Cx} {sc : Scope} {W : WX} {i : Nat} {y : Str} {py spos : Pos} {e : E} {v : Expr} (ctx : CtxS G P tb n X sc W) (hy : X.N[i]? = some y) (hl : locB sc y true = true) (h : mE tb X.N sc e v = true) :
    PS X (.Assign [.Name y py] v spos) (tAsg (tEv G W (evE P (callN P n) e)) (gName i)) := by
  obtain ⟨l1, l2⟩ := ctx.loc y hl
  by_cases hb : swapsWith v (some (.Name y py)) spos.line X.env = pure false
  · exact ps_set ctx.nd hy l1 ((okE G P tb n e).1 X sc W v ctx.toCtx h) hb l2
  · cases v with
    | ListComp elt gs scope pos =>
      have e0 : swapsWith (.ListComp elt gs scope pos) (some (.Name y py)) spos.line X.env = pure (X.env.blockKind == .function && X.env.kindOf y == some .local && py.line == pos.line && !(scope.names.any fun (n, k) => n == y && (k == .local || k == .cell))) := rfl
      cases q : (X.env.blockKind == .function && X.env.kindOf y == some .local && py.line == pos.line && !(scope.names.any fun (n, k) => n == y && (k == .local || k == .cell))) with
      | false =>
        rw [q] at e0
        exact absurd e0 hb
      | true =>
        rw [q] at e0
        simp only [Bool.and_eq_true] at q
        have hyl : X.env.scope.names.lookup y = some .local := by
          have := q.1.1.2
          exact (show X.env.kindOf y = some .local from by simpa using this)
        exact set_comp ctx.toCtx hy hyl e0 e h
    | SetComp _ _ _ _ => exact (no_set e h).elim
    | DictComp _ _ _ _ _ => exact (no_dic e h).elim
    | _ => exact absurd rfl hb
end PC
namespace PC
open PySem PySem.Spec PyProof.Rows L2
variable {G : Glb} {P : Prog} {tb : Tab} {n : Nat}
theorem fzaS {W : WX} {w w1 : Wd} {D : Ends} {x : T} {v : V} {F : List Addr} {sl : Slots} {f : T → Store → RS} (h : PostS G W w D (RS.of sl (fzaR x w1.st) f)) (ev : Ev w w1) (ok : w1.Ok G) (r : w1.RO G v x F) (o : Own w w1 F) :
    ∃ w2 y, w2.H = w1.H ∧ Mv G w1 w2 F ∧ Ev w w2 ∧ w2.Ok G ∧ w2.R0 G v y ∧ PostS G W w D (f y w2.st) := by
  rcases fzaR_or x w1.st with ⟨y, st2, q0, q⟩ | q
  · rw [q] at h
    obtain ⟨w2, e2, m2, c2⟩ := fza_ok ok r o q0
    subst e2
    exact ⟨w2, y, m2.H, m2, m2.ev ev o.new, m2.ok, c2, h⟩
  · rw [q] at h
    exact h.elim
theorem s_asg {tg : Tg} {e : E} : SS G P tb n (.asg tg e) := by
  intro X sc W p c h
  cases p <;> try exact no h rfl
  rename_i tgs v pos
  cases tgs with
  | nil => exact no h rfl
  | cons t r =>
    cases r with
    | cons _ _ => exact no h rfl
    | nil =>
      have h : (mTg X.N sc tg t && mE tb X.N sc e v && swNoneB t v) = true := h
      simp only [Bool.and_eq_true] at h
      obtain ⟨⟨h1, h2⟩, h3⟩ := h
      cases tg with
      | name i =>
        cases t <;> try exact no h1 rfl
        rename_i y py
        have h1 : (decide (X.N[i]? = some y) && locB sc y true) = true := h1
        simp only [Bool.and_eq_true, decide_eq_true_eq] at h1
        refine PS.imp (asg_name c h1.1 h1.2 h2) fun D σ H ⟨w, sl, e, ok, hs, h⟩ => ?_
        subst e
        refine PostS.bind Ev.refl h ok hs fun x st1 v w1 F1 h e1 ev1 ok1 r1 o1 => ?_
        subst e1
        obtain ⟨w2, y, hH, m2, ev2, ok2, r2, h⟩ := fzaS h ev1 ok1 r1 o1
        rw [← hH]
        exact h w2 _ rfl ev2 ok2 ((hs.mono ev2 ok).set i r2)
      | tup ts =>
        cases t <;> try exact no h1 rfl
        rename_i es kk py
        refine PS.imp (ps_asg ((okE G P tb n e).1 X sc W v c.toCtx h2) (pg_ok (G := G) c.calm c.nd c.loc (.tup ts) h1) (sole_tup _ _ _ _ _ _) (swNone_ok h3) (by rw [each_cons h1]; rfl)) fun D σ H ⟨w, sl, e, ok, hs, h⟩ => ?_
        subst e
        refine PostS.bind Ev.refl h ok hs fun x st1 v w1 F1 h e1 ev1 ok1 r1 o1 => ?_
        subst e1
        obtain ⟨w2, y, hH, m2, ev2, ok2, r2, h⟩ := fzaS h ev1 ok1 r1 o1
        rw [← hH]
        cases q : bindT w2.st (.tup ts) y sl with
        | none => rw [q] at h; exact h.elim
        | some sl' =>
          rw [q] at h
          exact ⟨w2, y, sl, sl', rfl, ok2, hs.mono ev2 ok, r2, q, fun σ' hs' _ => h w2 σ' rfl ev2 ok2 hs'⟩
theorem s_par {i j : Nat} {es : Es} : SS G P tb n (.par i j es) := by
  intro X sc W p c h
  cases p <;> try exact no h rfl
  rename_i tgs v pos
  have h : mPar tb X.N sc i j es tgs v = true := h
  unfold mPar at h
  split at h
  · rename_i x px y py k1 p1 a b k2 p2
    simp only [Bool.and_eq_true, decide_eq_true_eq] at h
    obtain ⟨⟨⟨⟨h1, h2⟩, h3⟩, h4⟩, h5⟩ := h
    obtain ⟨pw, lx, ly⟩ := par_ok (sc := sc) (env := X.env) c.sc h5
    refine PS.imp (ps_par c.calm c.nd h1 h2 h3 lx ly (okEs G P tb n es X sc W _ c.toCtx h4).1 pw (sole_tup _ _ _ _ _ _)) fun D σ H ⟨w, sl, e, ok, hs, h⟩ => ?_
    subst e
    refine PostS.bindL Ev.refl h ok hs fun xs st1 vs w1 F1 h e1 ev1 ok1 r1 o1 => ?_
    subst e1
    rcases fzas_R xs w1.st with ⟨ys, st2, q⟩ | q
    · rw [q] at h
      obtain ⟨w2, e2, m2, c2⟩ := fzas_ok ok1 r1 o1 q
      subst e2
      have ev2 := m2.ev ev1 o1.new
      simp only [RS.of, parSet] at h
      split at h
      · rename_i x1 y1
        cases c2 with
        | cons r1' c2 =>
          cases c2 with
          | cons r2' c2 =>
            cases c2
            refine ⟨_, _, rfl, ?_⟩
            rw [← m2.H]
            exact h w2 _ rfl ev2 m2.ok (((hs.mono ev2 ok).set i r1').set j r2')
      · exact h.elim
    · rw [q] at h
      exact h.elim
  · cases h
theorem assign_sub {o i : Expr} {pos : Pos} {env : Env} (h : plainB i = true) (v : Value) : assign (.Subscript o i pos) env v = (do
      let ov ← holding [v] (eval o env)
      let iv ← holding [v, ov] (eval i env)
      standAt pos
      holding [v, ov, iv] (setItem ov iv v)
      release [v, ov, iv] []) := by
  cases i <;> first | rfl | cases h
theorem s_sub {o i e : E} : SS G P tb n (.sub o i e) := by
  intro X sc W p c h
  cases p <;> try exact no h rfl
  rename_i tgs v pos
  cases tgs with
  | nil => exact no h rfl
  | cons t r =>
    cases r with
    | cons _ _ => cases t <;> exact no h rfl
    | nil =>
      cases t <;> try exact no h rfl
      rename_i eo ei ps
      have h : (mE tb X.N sc o eo && mE tb X.N sc i ei && plainB ei && mE tb X.N sc e v) = true := h
      simp only [Bool.and_eq_true] at h
      obtain ⟨⟨⟨h1, h2⟩, h3⟩, h4⟩ := h
      refine PS.imp (ps_asg ((okE G P tb n e).1 X sc W v c.toCtx h4) (pg_sub ((okE G P tb n o).1 X sc W eo c.toCtx h1) ((okE G P tb n i).1 X sc W ei c.toCtx h2) (PSet.or set_list (set_dct (by have := c.room.un; omega))) (assign_sub h3)) (sole_sub _ _ _ _ _ _) (sw_sub _ _ _ _ _) rfl) fun D σ H ⟨w, sl, e, ok, hs, h⟩ => ?_
      subst e
      refine PostS.bind Ev.refl h ok hs fun x st1 v w1 F1 h e1 ev1 ok1 r1 o1 => ?_
      subst e1
      refine PostS.bind ev1 h ok1 (hs.mono ev1 ok) fun y st2 u w2 F2 h e2 ev2 ok2 r2 o2 => ?_
      subst e2
      have ev12 := ev1.trans ev2
      refine PostS.bind ev12 h ok2 (hs.mono ev12 ok) fun z st3 z' w3 F3 h e3 ev3 ok3 r3 o3 => ?_
      subst e3
      have ev123 := ev12.trans ev3
      have ro1 := ev2.ro ok1 o1 r1
      have ow1 := o1.mono ev2 (RepO.trk r1)
      have ro1' := ev3.ro ok2 ow1 ro1
      have ow1' := ow1.mono ev3 (RepO.trk ro1)
      have ro2 := ev3.ro ok2 o2 r2
      obtain ⟨k, rfl⟩ : ∃ k, y = .ref k := by cases y <;> first | exact ⟨_, rfl⟩ | exact h.elim
      obtain ⟨a, rfl, hk, rfl⟩ := RO_ref ro2
      have put : ∀ {w4 : Wd} {ks : List NestedKey} {ys : List T} {b : Bool} {j : NestedKey} {t' : T}, Mv G w3 w4 F1 → w4.RC G v t' → w4.r[k]? = some a → Ev w w4 → w4.st[k]? = some (.nd (.dic ks) .own ys) → keyT z = some (b, j) → keysT b ys = some ks → ks.length < sizeLine →
          PostS G W w D (.nx sl (w4.st.set k (.nd (.dic (putN j ks)) .own (putD j z t' ks ys)))) → rSetN X.w (.ref a) z' v w3.H (fun H' => D.nx σ H') := fun {w4 ks ys b j t'} m4 c4 hk4 ev4 q2 kt kk hl h => by
        obtain ⟨ns, vs, ha, cs⟩ := m4.ok.cells k a _ hk4 q2
        have rz := m4.ro r3
        have rk := key_closed rz kt
        have ha' : DctAt G.w w4.H a ks vs := ha
        rw [m4.H] at ha'
        refine ⟨a, ks, vs, b, j, rfl, by rw [c.wd]; exact ha', by rw [← m4.H]; exact krels_o (r := w4.r) cs.toO kk, by rw [← m4.H]; exact krel_c rk kt, hl, fun ob dO => ?_⟩
        have hs3 : (a == sysModules) = false := let ⟨_, _, z, _⟩ := ha'; z
        have g := m4.ok.wr (o := objO a ob) (t' := .nd (.dic (putN j ks)) .own (putD j z t' ks ys)) hk4 q2 (.inl rfl) ⟨ns, putD j z' v ks vs, ⟨ob, upd_same, hs3, by rw [← c.wd]; exact dO⟩, putD_c (wr_rc m4.ok ns rk) (wr_rc m4.ok ns c4) (wr_rcs m4.ok ns cs)⟩
        rw [← m4.H]
        have ev5 := ev4.trans g.2
        exact h (w4.wr k a (objO a ob) (.nd (.dic (putN j ks)) .own (putD j z t' ks ys))) σ rfl ev5 g.1 (hs.mono ev5 ok)
      have gen : (∀ i, z ≠ .int i) → rSetL (.ref a) z' v w3.H (fun H' => D.nx σ H') ∨ rSetN X.w (.ref a) z' v w3.H (fun H' => D.nx σ H') := fun hz => by
        have e0 : setT (.ref k) z x w3.st = (match fz x w3.st with
          | some (t, st) => (match st[k]? with
            | some (.nd (.dic ks) .own ys) => (match keyT z with
              | some (b, j) => if keysT b ys = some ks ∧ ks.length < sizeLine then .ok .non (st.set k (.nd (.dic (putN j ks)) .own (putD j z t ks ys))) else .bad
              | none => .bad)
            | _ => .bad)
          | none => .bad) := by
          cases z <;> first | rfl | exact absurd rfl (hz _)
        rw [e0] at h
        split at h
        · rename_i t' st4 q
          obtain ⟨w4, e4, m4, c4⟩ := fz_ok x ok3 ro1' ow1' q
          subst e4
          split at h
          · rename_i ks ys q2
            split at h
            · rename_i b j kt
              split at h
              · rename_i hh
                exact .inr (put m4 c4 (by rw [m4.r]; exact hk) (m4.ev ev123 ow1'.new) q2 kt hh.1 hh.2 h)
              · exact h.elim
            · exact h.elim
          · exact h.elim
        · exact h.elim
      cases z with
      | int ix =>
        obtain ⟨rfl, _⟩ := RO_int r3
        simp only [setT] at h
        split at h
        · rename_i t' st4 q
          obtain ⟨w4, e4, m4, c4⟩ := fz_ok x ok3 ro1' ow1' q
          subst e4
          have hk4 : w4.r[k]? = some a := by rw [m4.r]; exact hk
          have ev4 := m4.ev ev123 ow1'.new
          split at h
          · rename_i ys q2
            split at h
            · rename_i j hj
              obtain ⟨ns, vs, ha, cs⟩ := m4.ok.cells k a _ hk4 q2
              have g := m4.ok.wr (o := .lst (vs.set j v)) (t' := .nd .lst .own (ys.set j t')) hk4 q2 (.inl rfl) ⟨ns, vs.set j v, upd_same, RepCs.set j (wr_rc m4.ok ns c4) (wr_rcs m4.ok ns cs)⟩
              refine .inl ⟨a, vs, ix, j, rfl, rfl, m4.H ▸ ha, by rw [cs.length]; exact hj, ?_⟩
              rw [← m4.H]
              have ev5 := ev4.trans g.2
              exact h (w4.wr k a (.lst (vs.set j v)) (.nd .lst .own (ys.set j t'))) σ rfl ev5 g.1 (hs.mono ev5 ok)
            · exact h.elim
          · rename_i ks ys q2
            split at h
            · rename_i hh
              exact .inr (put m4 c4 hk4 ev4 q2 (b := false) rfl hh.1 hh.2 h)
            · exact h.elim
          · exact h.elim
        · exact h.elim
      | _ => exact gen (fun i => by simp)
theorem s_subn {o i e : E} {j : Nat} : SS G P tb n (.subn o i j e) := by
  intro X sc W p c h
  cases p <;> try exact no h rfl
  rename_i tgs v pos
  match tgs, h with
  | [.Tuple [.Subscript eo ei ps, .Name y py] kk pt], h =>
    have h : ((mE tb X.N sc o eo && mE tb X.N sc i ei && plainB ei && mE tb X.N sc e v) && (decide (X.N[j]? = some y) && locB sc y true) && isCallE v) = true := h
    simp only [Bool.and_eq_true, decide_eq_true_eq] at h
    obtain ⟨⟨⟨⟨⟨h1, h2⟩, h3⟩, h4⟩, hy, hl⟩, h5⟩ := h
    obtain ⟨l1, l2⟩ := c.loc y hl
    refine PS.imp (ps_asg ((okE G P tb n e).1 X sc W v c.toCtx h4) (pg_tup c.calm (pgs_cons (pg_sub ((okE G P tb n o).1 X sc W eo c.toCtx h1) ((okE G P tb n i).1 X sc W ei c.toCtx h2) set_list (assign_sub h3)) (pgs_cons (pg_name c.nd hy l1 l2) pgs_nil))) (sole_tup _ _ _ _ _ _) (sw_call h5) rfl) fun D σ H ⟨w, sl, e, ok, hs, h⟩ => ?_
    subst e
    refine PostS.bind Ev.refl h ok hs fun x st1 v w1 F1 h e1 ev1 ok1 r1 o1 => ?_
    subst e1
    obtain ⟨w2, t, hH, m2, ev2, ok2, r2, h⟩ := fzaS h ev1 ok1 r1 o1
    rw [← hH]
    unfold twoI at h
    split at h
    · rename_i _ xi yi q0
      split at q0
      · rename_i xi' yi' q
        cases q0
        obtain ⟨a, vs, rfl, ha, cs⟩ := seq_of ok2 r2 q
        cases cs with
        | cons c1 cs =>
          cases cs with
          | cons c2 cs =>
            cases cs
            obtain ⟨rfl, _⟩ := RO_int (.of0 c1)
            obtain ⟨rfl, _⟩ := RO_int (.of0 c2)
            refine ⟨a, _, rfl, SqT.of ha, rfl, ?_⟩
            refine ⟨_, _, rfl, ?_⟩
            refine PostS.bind ev2 h ok2 (hs.mono ev2 ok) fun z st3 u w3 F3 h e3 ev3 ok3 r3 o3 => ?_
            subst e3
            have ev23 := ev2.trans ev3
            refine PostS.bind ev23 h ok3 (hs.mono ev23 ok) fun z2 st4 u2 w4 F4 h e4 ev4 ok4 r4 o4 => ?_
            subst e4
            have ev24 := ev23.trans ev4
            have ro3 := ev4.ro ok3 o3 r3
            obtain ⟨k, rfl⟩ : ∃ k, z = .ref k := by cases z <;> first | exact ⟨_, rfl⟩ | exact h.elim
            obtain ⟨ix, rfl⟩ : ∃ i, z2 = .int i := by cases z2 <;> first | exact ⟨_, rfl⟩ | exact h.elim
            obtain ⟨b, rfl, hk, rfl⟩ := RO_ref ro3
            obtain ⟨rfl, rfl⟩ := RO_int r4
            simp only [setTL, fz] at h
            split at h
            · rename_i ys q2
              split at h
              · rename_i jj hj
                obtain ⟨ns, vs, hb, cs⟩ := ok4.cells k b _ hk q2
                have g := ok4.wr (o := .lst (vs.set jj (.int xi))) (t' := .nd .lst .own (ys.set jj (.int xi))) hk q2 (.inl rfl) ⟨ns, vs.set jj (.int xi), upd_same, RepCs.set jj (.int _) (wr_rcs ok4 ns cs)⟩
                refine ⟨b, vs, ix, jj, rfl, rfl, hb, by rw [cs.length]; exact hj, ?_⟩
                have ev5 := ev24.trans g.2
                refine ⟨_, _, rfl, rfl, ?_⟩
                exact h (w4.wr k b (.lst (vs.set jj (.int xi))) (.nd .lst .own (ys.set jj (.int xi)))) _ rfl ev5 g.1 ((hs.mono ev5 ok).set j (.cl (.int _)))
              · exact h.elim
            · exact h.elim
      · cases q0
    · exact h.elim
theorem putF_zip {f : Str} {v : V} {t : T} {w : Wd} : ∀ {fn : List Str} {vs : List V} {xs : List T}, fn.length = vs.length → w.RCs G vs xs → w.RC G v t → ∃ vs', putF f v (fn.zip vs) = (setF f t fn xs).1.zip vs' ∧ (setF f t fn xs).1.length = vs'.length ∧ w.RCs G vs' (setF f t fn xs).2 ∧ ∀ g ∈ (setF f t fn xs).1, g ∈ fn ∨ g = f
  | [], [], [], _, .nil, r => ⟨[v], rfl, rfl, .cons r .nil, by simp [setF]⟩
  | g :: fn, v0 :: vs, x :: xs, e, .cons h t', r => by
    simp only [setF]
    by_cases q : f = g
    · subst q
      rw [if_pos rfl]
      exact ⟨v :: vs, by show (if f = f then _ else _) = _; rw [if_pos rfl]; rfl, e, .cons r t', fun g hg => .inl hg⟩
    · rw [if_neg q]
      obtain ⟨vs', h1, h2, h3, h4⟩ := putF_zip (f := f) (v := v) (fn := fn) (by simpa using e) t' r
      refine ⟨v0 :: vs', ?_, congrArg Nat.succ h2, .cons h h3, fun g' hg => ?_⟩
      · show (if g = f then _ else _) = _
        rw [if_neg (Ne.symm q)]
        exact congrArg (List.cons (g, v0)) h1
      · rcases List.mem_cons.mp hg with z | z
        · exact .inl (by simp [z])
        · exact (h4 g' z).imp (fun z => by simp [z]) id
theorem s_fld {o : E} {f : Str} {e : E} : SS G P tb n (.fld o f e) := by
  intro X sc W p c h
  cases p <;> try exact no h rfl
  rename_i tgs v pos
  cases tgs with
  | nil => exact no h rfl
  | cons t r =>
    cases r with
    | cons _ _ => cases t <;> exact no h rfl
    | nil =>
      cases t <;> try exact no h rfl
      rename_i eo f' ps
      have h : (decide (f = f') && mE tb X.N sc o eo && mE tb X.N sc e v) = true := h
      simp only [Bool.and_eq_true, decide_eq_true_eq] at h
      obtain ⟨⟨rfl, h1⟩, h2⟩ := h
      refine PS.imp (ps_fld ((okE G P tb n o).1 X sc W eo c.toCtx h1) ((okE G P tb n e).1 X sc W v c.toCtx h2) (sole_att _ _ _ _ _ _)) fun D σ H ⟨w, sl, e, ok, hs, h⟩ => ?_
      subst e
      refine PostS.bind Ev.refl h ok hs fun x st1 v w1 F1 h e1 ev1 ok1 r1 o1 => ?_
      subst e1
      refine PostS.bind ev1 h ok1 (hs.mono ev1 ok) fun y st2 u w2 F2 h e2 ev2 ok2 r2 o2 => ?_
      subst e2
      have ev12 := ev1.trans ev2
      have ro1 := ev2.ro ok1 o1 r1
      have ow1 := o1.mono ev2 (RepO.trk r1)
      obtain ⟨k, rfl⟩ : ∃ k, y = .ref k := by cases y <;> first | exact ⟨_, rfl⟩ | exact h.elim
      obtain ⟨a, rfl, hk, rfl⟩ := RO_ref r2
      simp only [setFld] at h
      split at h
      · rename_i t' st4 q
        obtain ⟨w4, e4, m4, c4⟩ := fz_ok x ok2 ro1 ow1 q
        subst e4
        have hk4 : w4.r[k]? = some a := by rw [m4.r]; exact hk
        have ev4 := m4.ev ev12 ow1.new
        split at h
        · rename_i cc fn xs q2
          split at h
          · rename_i hf
            rw [Bool.and_eq_true] at hf
            obtain ⟨ns, vs, ⟨⟨hc, hn⟩, hl, dx, ha⟩, cs⟩ := m4.ok.cells k a _ hk4 q2
            obtain ⟨vs', z1, z2, z3, z4⟩ := putF_zip (f := f) (v := v) hl cs c4
            obtain ⟨qq, hq1, hq2⟩ := List.any_eq_true.mp hf.2
            have hq2 : qq = (cc, f) := of_decide_eq_true hq2
            subst hq2
            have hfl := c.gl.fld _ hq1
            have hnm : fn.length < 1000 := of_decide_eq_true hf.1
            have g := m4.ok.wr (o := .ins (G.cls cc) dx (putF f v (fn.zip vs))) (t' := .nd (.obj cc (setF f t' fn xs).1) .own (setF f t' fn xs).2) hk4 q2 (.inl rfl)
              ⟨ns, vs', ⟨⟨hc, fun g' hg => (z4 g' hg).elim (hn g') fun e => e ▸ hfl.2⟩, z2, dx, by rw [← z1]; exact upd_same⟩, wr_rcs m4.ok ns z3⟩
            refine ⟨a, _, dx, _, rfl, m4.H ▸ ha, by rw [c.K]; exact hc, by rw [c.K]; exact hfl.2, by rw [List.length_zip]; omega, ?_⟩
            rw [← m4.H]
            have ev5 := ev4.trans g.2
            exact h (w4.wr k a (.ins (G.cls cc) dx (putF f v (fn.zip vs))) (.nd (.obj cc (setF f t' fn xs).1) .own (setF f t' fn xs).2)) σ rfl ev5 g.1 (hs.mono ev5 ok)
          · exact h.elim
        · exact h.elim
      · exact h.elim
theorem sw_none {v : Expr} {l : Nat} {env : Env} (h : isCompr v = false) : swapsWith v none l env = pure false := by
  cases v <;> first | rfl | cases h
theorem s_ex {e : E} : SS G P tb n (.ex e) := by
  intro X sc W p c h
  cases p <;> try exact no h rfl
  rename_i v pos
  have h : (mE tb X.N sc e v && !(isCompr v)) = true := h
  simp only [Bool.and_eq_true, Bool.not_eq_true'] at h
  refine PS.imp (ps_expr ((okE G P tb n e).1 X sc W v c.toCtx h.1) (sw_none h.2)) fun D σ H ⟨w, sl, e, ok, hs, h⟩ => ?_
  subst e
  refine PostS.bind Ev.refl h ok hs fun x st1 v w1 F1 h e1 ev1 ok1 r1 o1 => ?_
  subst e1
  exact h w1 σ rfl ev1 ok1 (hs.mono ev1 ok)
theorem s_ret {e : E} : SS G P tb n (.ret e) := by
  intro X sc W p c h
  cases p <;> try exact no h rfl
  rename_i v pos
  cases v with
  | none => exact no h rfl
  | some v =>
    have h : mE tb X.N sc e v = true := h
    refine PS.imp (ps_ret ((okE G P tb n e).1 X sc W v c.toCtx h)) fun D σ H ⟨w, sl, e, ok, hs, h⟩ => ?_
    subst e
    refine PostS.bind Ev.refl h ok hs fun x st1 v w1 F1 h e1 ev1 ok1 r1 o1 => ?_
    subst e1
    exact h v w1 F1 rfl ev1 ok1 r1 o1
theorem s_ret0 : SS G P tb n .ret0 := by
  intro X sc W p c h
  cases p <;> try exact no h rfl
  rename_i v pos
  cases v with
  | some _ => exact no h rfl
  | none =>
    refine PS.imp ps_retN fun D σ H ⟨w, sl, e, ok, hs, h⟩ => ?_
    subst e
    exact h .non w [] rfl Ev.refl ok (.of0 (.cl .non)) Own.nil
theorem s_pass : SS G P tb n .pass := by
  intro X sc W p c h
  cases p <;> try exact no h rfl
  refine PS.imp ps_pass fun D σ H ⟨w, sl, e, ok, hs, h⟩ => ?_
  subst e
  exact h w σ rfl Ev.refl ok hs
theorem s_ite {e : E} {a b : Ss} (ia : SSs G P tb n a) (ib : SSs G P tb n b) : SS G P tb n (.ite e a b) := by
  intro X sc W p c h
  cases p <;> try exact no h rfl
  rename_i ec sa sb pos
  have h : (mT tb X.N sc e ec && mSs tb X.N sc a sa && mSs tb X.N sc b sb) = true := h
  simp only [Bool.and_eq_true] at h
  refine PS.imp (ps_if ((okE G P tb n e).2 X sc W ec c.toCtx h.1.1) (ia X sc W sa c h.1.2) (ib X sc W sb c h.2)) fun D σ H ⟨w, sl, e, ok, hs, h⟩ => ?_
  subst e
  refine PostS.bindT Ev.refl h ok hs fun x st1 v w1 F1 h e1 ev1 ok1 r1 o1 => ?_
  subst e1
  split at h
  · obtain ⟨rfl, rfl⟩ := RO_bl r1
    refine ⟨true, rfl, ?_⟩
    rw [if_pos rfl]
    exact ⟨w1, sl, rfl, ok1, hs.mono ev1 ok, PostS.from ev1 h⟩
  · obtain ⟨rfl, rfl⟩ := RO_bl r1
    refine ⟨false, rfl, ?_⟩
    rw [if_neg (by decide)]
    exact ⟨w1, sl, rfl, ok1, hs.mono ev1 ok, PostS.from ev1 h⟩
  · exact h.elim
theorem s_rai {k : Nat} : SS G P tb n (.rai k) := by
  intro X sc W p c h
  cases p <;> try exact no h rfl
  rename_i ex cause pos
  cases ex with
  | none => exact no h rfl
  | some ex =>
    cases cause with
    | some _ => exact no h (by cases ex <;> try rfl
                               rename_i f as ks q; cases f <;> try rfl
                               cases as <;> try rfl
                               rename_i a as; cases a <;> try rfl
                               rename_i cst _ _; cases cst <;> try rfl
                               cases as <;> cases ks <;> rfl)
    | none =>
      cases ex <;> try exact no h rfl
      rename_i f as ks q
      cases f <;> try exact no h rfl
      rename_i x px
      cases as with
      | nil => exact no h rfl
      | cons a as =>
        cases a <;> try exact no h rfl
        rename_i cst j p2
        cases cst <;> try exact no h rfl
        rename_i m
        cases as with
        | cons _ _ => exact no h rfl
        | nil =>
          cases ks with
          | cons _ _ => exact no h rfl
          | nil =>
            have h : (glB sc x && decide (tb.exc[k]? = some (some x))) = true := h
            simp only [Bool.and_eq_true, decide_eq_true_eq] at h
            obtain ⟨ga, gb, _⟩ := glB_ok h.1 c.sc
            obtain ⟨hm, ek⟩ := c.gl.exc k x h.2
            obtain ⟨B, ni, ii, bm, F, hq⟩ := ek.base
            refine PS.imp (L2N.ps_raise c.calm c.tk (L2N.pmk_own F (by rw [c.K]; exact hq) (by rw [c.mg]; exact hm) (by rw [c.K]; exact ek.kp) (raises_own (by rw [c.K]; exact ek.sub) (by rw [c.K]; exact ek.ty)) ga gb)) fun D σ H ⟨w, sl, e, ok, hs, h⟩ => ?_
            subst e
            exact h w σ rfl Ev.refl ok hs
end PC
/-! [k for k in range(n) if o[k]] while an exception is handled. -/
namespace PC
open PySem PySem.Spec PyProof.Rows L2
/-- the places of the truths among the first m -/
def pkV (bs : List Bool) (m : Nat) : List V := ((List.range m).filter fun i => bs[i]? == some true).map fun i : Nat => V.int (i : Int)
theorem pkV_no {bs : List Bool} {m : Nat} (h : bs[m]? = some false) : pkV bs (m + 1) = pkV bs m := by
  unfold pkV
  rw [List.range_succ, List.filter_append, List.map_append]
  simp [h]
theorem pkV_yes {bs : List Bool} {m : Nat} (h : bs[m]? = some true) : pkV bs (m + 1) = pkV bs m ++ [.int m] := by
  unfold pkV
  rw [List.range_succ, List.filter_append, List.map_append]
  simp [h]
theorem pkV_len (bs : List Bool) (m : Nat) : (pkV bs m).length ≤ m := by
  unfold pkV
  rw [List.length_map]
  exact Nat.le_trans (List.length_filter_le _ _) (by rw [List.length_range]; exact Nat.le_refl _)
section
variable {X : Cx} {pins : List (Addr × Obj)} {σ : L2.St} {H : Hp} {s : Shared}
/-- an iterator over 0 .. n has come -/
def RIt (X : Cx) (pins : List (Addr × Obj)) (σ : L2.St) (H : Hp) (n : Nat) (itv : Value) (s2 : Shared) : Prop := ∃ it, itv = .ref it ∧ Inv X pins σ H s2 ∧ IsRangeIter s2.heap it 0 n 1 ∧ FpOk X pins H it ∧ it < s2.heap.objs.size
theorem rg_run {n : Nat} {cst : Expr} {p pos : Pos} (rg : Gl X "range") (rm : X.mg "range" = none) (pa : PA X [cst] fun _ H Q => Q [.int n] H) (hs : starEach [cst] X.env = [(false, eval cst X.env)]) (hn : n ≤ 100) (I : Inv X pins σ H s) :
    wpAny (model X.prog X.w) X.A (eval (.Call (.Name "range" p) [cst] [] pos) X.env) (fun v s1 => wpAny (model X.prog X.w) X.A (pyIter v) (RIt X pins σ H n) X.xe s1) X.xe s := by
  refine Call_ (ld_blt I rg rm boot_range (PyProof.Rows.callWith_type1 (thn (pa.run pos pins s σ H (fun vs H1 => vs = [.int n] ∧ H1 = H) I ⟨rfl, rfl⟩) fun us s1 ⟨vs, H1, I1, r1, e1, e2⟩ => ?_) hs rfl))
  subst e1 e2
  obtain ⟨u, rfl, t, rfl⟩ := vals1 r1
  refine call_range_1 (wpAny_pyIter_range (IsRange.new ..) (small_one (by omega) (by omega) (by omega) (by omega)) ?_)
  have J1 : Inv X pins σ H1 { s1 with heap := s1.heap.push { cls := .type "range", data := .fields #[.int 0 s1.toks, .int n t, .int 1 (s1.toks + 1)] }, toks := s1.toks + 1 + 1 } := I1.kept fun b o e => Heap.get?_push_of_some _ e
  refine ⟨_, rfl, J1.kept (t' := s1.toks + 1 + 1) fun b o e => Heap.get?_push_of_some _ e, ?_, J1.fpOk (Nat.le_refl _) (J1.hok.fresh (Nat.le_refl _)), ?_⟩
  · have e2 : (n : Int) = Builtin.Range.rangeSize 0 n 1 := by rw [rangeSize_one]; split <;> omega
    unfold IsRangeIter
    rw [show rawInt ((n : Nat) : Int) = rawInt (Builtin.Range.rangeSize 0 n 1) from congrArg rawInt e2]
    exact Heap.get?_push_size _ rfl
  · exact Heap.lt_size (Heap.get?_push_size _ rfl)
/-- the block's heap has the exception that is handled -/
theorem hot_blk {scope : Scope} {ce : Env} {fp : List Addr} {σ' : L2.St} {H' : Hp} {s' : Shared} (hot : L2H.HotC X) (I : Inv X pins σ H s) (J : Inv (X.blk s H scope ce fp) [] σ' H' s') (nf : ∀ b ∈ fp, FpOk X pins H b) : ∃ x1, HotX.HotAt X.A x1 s'.heap := by
  obtain ⟨p, ⟨hh, v1, e1, c1⟩, hp⟩ := hot
  have z := I.pin p (List.mem_append_left _ hp)
  have nfs : p.1 ∉ frs X.stack := fun hm => (List.mem_cons.mp (I.stkSub p.1 hm)).elim z.2.2.1 z.2.2.2.1
  exact ⟨p.1, hh, p.2, v1, J.base.keep p.1 p.2 z.1 z.2.1 nfs (fun hm => (nf p.1 hm).2.2.2.2.2 p (List.mem_append_left _ hp) rfl), e1, c1⟩
def tPick (K : PySem.W.Frag) (j k n : Nat) : TE := fun σ H Q => ∃ (a : Addr) (bs : List Bool), σ[j]? = some (some (.ref a)) ∧ SqL K H a (bs.map V.bl) ∧ bs.length = n ∧ ∀ D, H D = none → Q (.ref D) (upd H D (.lst (pkV bs n)))
/-- o[k] in the block -/
def tAt (K : PySem.W.Frag) (j k : Nat) : TT := fun σ H Q => ∃ (a : Addr) (vs : List V) (i : Nat) (b : Bool), σ[j]? = some (some (.ref a)) ∧ SqL K H a vs ∧ σ[k]? = some (some (.int i)) ∧ vs[i]? = some (.bl b) ∧ Q b H
theorem pick_core {n k j : Nat} {x : Str} {cst elt tst : Expr} {scope : Scope} {p1 p2 p3 p7 : Pos} (hot : L2H.HotC X) (nd : X.N.Nodup) (ok : BlkOk X.N X.env.scope scope [(x, k)]) (jk : j ≠ k)
    (pg : ∀ (s : Shared) (H : Hp) (C : Addr) (cl : List (Str × Addr)) (fp : List Addr), PG (X.blk s H scope (compEnvC scope cl C X.env) fp) (.Name x p1) (gName k))
    (pt : ∀ (s : Shared) (H : Hp) (C : Addr) (cl : List (Str × Addr)) (fp : List Addr), PT (X.blk s H scope (compEnvC scope cl C X.env) fp) tst (tAt X.K j k))
    (pe : ∀ (s : Shared) (H : Hp) (C : Addr) (cl : List (Str × Addr)) (fp : List Addr), PE (X.blk s H scope (compEnvC scope cl C X.env) fp) elt (tVar k))
    (rg : Gl X "range") (rm : X.mg "range" = none) (pa : PA X [cst] fun _ H Q => Q [.int n] H) (hs : starEach [cst] X.env = [(false, eval cst X.env)]) (hn : n ≤ 100) :
    PE X (.ListComp elt [⟨.Name x p1, .Call (.Name "range" p2) [cst] [] p3, [tst], 0⟩] scope p7) (tPick X.K j k n) := by
  refine ⟨fun pins s σ H Q I ⟨a, bs, sa, ha, hl, q⟩ => ?_⟩
  have cells : ∀ z ∈ scope.names, z.2 = .free → ∃ c, X.env.cells.lookup z.1 = some c := fun z hz e => I.ok.has _ (ok.free z hz e)
  have same : ∀ z ∈ scope.names, z.2 = .local → scope.names.lookup z.1 = some .local := fun z hz e => (ok.uniq z hz).trans (congrArg some e)
  rw [eval_ListComp]
  refine wpAny_comprehension_free (use := none) rfl (fun _ => rfl) (closure_ok cells) ok.kind same (thn (rg_run rg rm pa hs hn I) fun xv s1 hx => thn hx fun itv s2 ⟨it, e, I2, st2, f2, lt2⟩ => ?_)
  subst e
  refine wpAny_newObj_type (newEnv_comp ?_) (Nat.zero_le _)
  have nD : H s2.heap.objs.size = none := I2.hok.fresh (Nat.le_refl _)
  -- the new list
  obtain ⟨s3, e3⟩ : ∃ s3, s3 = ({ s2 with heap := s2.heap.push { cls := .type "list", data := .seq ([] : List Value).toArray } } : Shared) := ⟨_, rfl⟩
  obtain ⟨D, eD⟩ : ∃ D, D = s2.heap.objs.size := ⟨_, rfl⟩
  rw [← eD] at nD
  have I3 : Inv X pins σ (upd H D (.lst [])) s3 := by
    rw [e3, eD]
    exact I2.laid (t' := s2.toks) (fun b o z => Heap.get?_push_of_some _ z) (Nat.le_refl _) ⟨Nat.zero_le _, [], 0, .nil, Heap.get?_push_size _ rfl⟩
  have st3 : IsRangeIter s3.heap it 0 n 1 := by rw [e3]; exact Heap.get?_push_of_some _ st2
  have neD : it ≠ D := by rw [eD]; exact Nat.ne_of_lt lt2
  have f3 : FpOk X pins (upd H D (.lst [])) it := ⟨by rw [upd_ne neD]; exact f2.1, f2.2⟩
  have f3' : ∀ b ∈ [it], FpOk X pins (upd H D (.lst [])) b ∧ b < s3.heap.objs.size := fun b hb => by
    cases List.mem_singleton.mp hb
    exact ⟨f3, Heap.lt_size st3⟩
  have J4 := block_start I3 ok nd f3'
  obtain ⟨ce, hce⟩ : ∃ ce, ce = compEnvC scope (cellsFrom (s3.heap.objs.size + 1) scope.names (cloFrom X.env.cells scope.names [])) s3.heap.objs.size X.env := ⟨_, rfl⟩
  have pg := pg s3 (upd H D (.lst [])) s3.heap.objs.size (cellsFrom (s3.heap.objs.size + 1) scope.names (cloFrom X.env.cells scope.names [])) [it]
  have pt := pt s3 (upd H D (.lst [])) s3.heap.objs.size (cellsFrom (s3.heap.objs.size + 1) scope.names (cloFrom X.env.cells scope.names [])) [it]
  have pe := pe s3 (upd H D (.lst [])) s3.heap.objs.size (cellsFrom (s3.heap.objs.size + 1) scope.names (cloFrom X.env.cells scope.names [])) [it]
  rw [← hce] at pg pt pe J4
  have cL : ce.locals = s3.heap.objs.size := by rw [hce]; rfl
  rw [← e3, ← eD]
  show codeAny _ _ (.compStart _ 0 (.ref it) (.ref D) (compEnvC scope (cellsFrom (s3.heap.objs.size + 1) scope.names (cloFrom X.env.cells scope.names [])) s3.heap.objs.size X.env)) (compPost (model X.prog X.w) X.A X.xe none (EP X pins σ Q) (.ref D) s3.heap.objs.size) _
  rw [← hce]
  obtain ⟨s4, hs4⟩ : ∃ s4, s4 = ({ s3 with heap := pushCells (s3.heap.push { cls := .type "dict", data := .dict #[] }) scope.names } : Shared) := ⟨_, rfl⟩
  rw [← hs4] at J4 ⊢
  have st4 : IsRangeIter s4.heap it 0 n 1 := by rw [hs4]; exact pushCells_keeps _ _ _ _ (Heap.get?_push_of_some _ st3)
  obtain ⟨H3, hH3⟩ : ∃ H3, H3 = upd H D (.lst []) := ⟨_, rfl⟩
  rw [← hH3] at I3 J4 f3 f3' pg pt pe
  have naD : ∀ {zs : List V}, SqL X.K (upd H D (.lst zs)) a (bs.map V.bl) := fun {zs} => by
    refine AtF.mono (G := ⟨X.K, X.mg, fun _ => 0, fun _ => 0, fun _ => default, fun _ => [], X.w⟩) (g := .scr) (fun o z => ?_) ha
    have : a ≠ D := fun e => by rw [e, nD] at z; cases z
    rw [upd_ne this]; exact z
  have fixed : ∀ {σ' : L2.St} {zs : List V} {s' : Shared}, Inv (X.blk s3 H3 scope ce [it]) [] σ' (upd H D (.lst zs)) s' → ∀ b ∈ [it], FpOk (X.blk s3 H3 scope ce [it]) [] (upd H D (.lst zs)) b := fun {σ' zs s'} J b hb => by
    cases List.mem_singleton.mp hb
    exact ⟨by rw [upd_ne neD]; exact f2.1, (J.ok.exf it hb).1, J.ok.exfs it hb, .inl hb, fun x c e => (J.ok.exf it hb).2 x c e, fun p hp => absurd (show p ∈ ([] : List (Addr × Obj)) ++ [] from hp) (by simp)⟩
  have walk : codeAny (model X.prog X.w) X.A (.compLoop (.ListComp elt [⟨.Name x p1, .Call (.Name "range" p2) [cst] [] p3, [tst], 0⟩] scope p7) 0 (.ref it) (.ref D) ce) (compPost (model X.prog X.w) X.A X.xe none (EP X pins σ Q) (.ref D) s3.heap.objs.size) s4 := by
    refine compLoop_any (fun m s' => ∃ i, i ≤ n ∧ m = n - i ∧ Inv (X.blk s3 H3 scope ce [it]) [] (wipe σ [k]) (upd H D (.lst (pkV bs i))) s' ∧ IsRangeIter s'.heap it i ((n : Int) - i) 1) ?_ n ⟨0, Nat.zero_le _, rfl, by rw [hH3] at J4 ⊢; exact J4, by simpa using st4⟩
    rintro m s5 ⟨i, le, rfl, J5, st5⟩
    by_cases hi : i < n
    · refine wpAny_pyNext_range_item st5 (by omega) fun h' st' sb => ?_
      obtain ⟨b, hb⟩ : ∃ b, bs[i]? = some b := ⟨bs[i]'(by omega), List.getElem?_eq_getElem _⟩
      have st6 : IsRangeIter h' it ((i + 1 : Nat) : Int) ((n : Int) - ((i + 1 : Nat) : Int)) 1 := by
        have e1 : (i : Int) + 1 = ((i + 1 : Nat) : Int) := by omega
        have e2 : (n : Int) - i - 1 = (n : Int) - ((i + 1 : Nat) : Int) := by omega
        rw [← e2, ← e1]; exact st'
      obtain ⟨f0, f1, f2', f3, f4, f5⟩ := fixed J5 it (List.mem_singleton.mpr rfl)
      have J6 : Inv (X.blk s3 H3 scope ce [it]) [] (wipe σ [k]) (upd H D (.lst (pkV bs i))) { s5 with heap := h', toks := s5.toks + 1 } := J5.turned (fun c o hc e => (sb.2 c hc).trans e) f0 f1 f3 f4 f5
      refine go_of (n := "range_iterator") st6 rfl rfl (by decide) ?_
      have J7 := J6.pinned (fixed J6) fun c hc => by
        cases List.mem_singleton.mp hc
        exact ⟨_, st6, fun v z => Data.noConfusion (show Data.fields _ = Data.cell v from z)⟩
      have kl : k < (wipe σ [k]).length := by
        have z := J7.len
        have := (List.getElem?_eq_some_iff.mp (ok.ix (x, k) (by simp))).1
        rw [z]; exact this
      refine thnF (pg.run _ _ _ _ (.int i) _ (fun σ' H' => σ' = (wipe σ [k]).set k (some (.int i)) ∧ H' = upd H D (.lst (pkV bs i))) J7 ⟨_, rfl⟩ ⟨rfl, rfl⟩) fun _ s8 ⟨σ8, H8, J8, e8, e9⟩ => ?_
      subst e8 e9
      have sj : ((wipe σ [k]).set k (some (V.int i)))[j]? = some (some (.ref a)) := by
        rw [List.getElem?_set_ne (Ne.symm jk), wipe_out (by simpa using jk)]; exact sa
      have sk : ((wipe σ [k]).set k (some (V.int i)))[k]? = some (some (.int i)) := List.getElem?_set_self kl
      have again : ∀ {s' : Shared} {zs : List V}, Inv (X.blk s3 H3 scope ce [it]) ([] ++ pinsAt [it] h') ((wipe σ [k]).set k (some (V.int i))) (upd H D (.lst zs)) s' → zs = pkV bs (i + 1) →
          ∃ m, m < n - i ∧ ∃ i, i ≤ n ∧ m = n - i ∧ Inv (X.blk s3 H3 scope ce [it]) [] (wipe σ [k]) (upd H D (.lst (pkV bs i))) s' ∧ IsRangeIter s'.heap it i ((n : Int) - i) 1 := fun {s' zs} J e => by
        subst e
        refine ⟨n - (i + 1), by omega, i + 1, hi, rfl, (J.unpinned (pins := [])).weak (by rw [List.length_set]) fun c v e => ?_, (J.pin (it, _) (List.mem_append_right _ (List.mem_append_right _ (mem_pinsAt (List.mem_singleton.mpr rfl) st6)))).1⟩
        have ck : c ∉ [k] := fun hc => by
          rw [wipe_in hc] at e
          split at e <;> cases e
        have ck : k ≠ c := fun z => ck (by simp [z])
        rw [List.getElem?_set_ne ck]; exact e
      refine thnF ((pts_one pt).run _ s8 _ _ (fun b' H' => b' = b ∧ H' = upd H D (.lst (pkV bs i))) J8 ⟨a, bs.map V.bl, i, b, sj, naD, sk, by rw [List.getElem?_map, hb]; rfl, rfl, rfl⟩) fun b' s9 ⟨H9, J9, e, e'⟩ => ?_
      subst e e'
      cases b' with
      | false =>
        simp only [Bool.false_eq_true, if_false]
        exact again J9 (pkV_no hb).symm
      | true =>
        simp only [if_true]
        refine thnF (pe.run _ s9 _ _ (fun v H' => v = .int i ∧ H' = upd H D (.lst (pkV bs i))) J9 ⟨_, sk, rfl, rfl⟩) fun z s10 ⟨v, H10, J10, r10, ev, eh⟩ => ?_
        subst ev eh
        have len := pkV_len bs i
        have big : (100 : Nat) < sizeLine := by decide
        refine app_ok (X := X.blk s3 H3 scope ce [it]) J10 upd_same (by omega) r10 fun s11 J11 => ?_
        rw [upd_upd] at J11
        exact again J11 (pkV_yes hb).symm
    · have e : i = n := by omega
      subst e
      obtain ⟨x1, h1⟩ := hot_blk hot I3 J5 fun b hb => (f3' b hb).1
      refine HotX.pyNext_range_end_hot h1 st5 (by omega) fun h' kp => ?_
      have J6 := J5.kept (t' := s5.toks) kp
      have I7 : Inv X pins σ (upd H D (.lst (pkV bs i))) { s5 with heap := h', toks := s5.toks } := I3.call' (ch := [it]) J6.os J6.base J6.hok J6.bare fun b hb => let z := (f3' b hb).1; ⟨z.2.2.2.1, z.2.1, z.2.2.2.2.1, z.2.2.2.2.2⟩
      obtain ⟨m, hm, _⟩ := J6.loc
      have hm : Heap.Ns h' ce.locals m := hm
      have fr : (upd H D (.lst (pkV bs i))) ce.locals = none := J6.free
      rw [cL] at hm fr
      obtain ⟨g0, g1, g2, g3, g4, g5⟩ := I3.fpOk (Nat.le_refl _) fr
      exact ⟨m, hm, fun h'' sb => ⟨.ref D, _, I7.turned (t' := s5.toks) (fun b o hb e => (sb.2 b hb).trans e) g0 g1 g3 g4 g5, rfl, q D nD⟩⟩
  exact codeAny_compStart_list walk (wpAny_pyIter_rangeiter st4 walk)
end
end PC
namespace PC
open PySem PySem.Spec PyProof.Rows L2
/-! ### except suites: they do what the evaluator says -/
/-- isinstance of the exception that is handled -/
def rIsP (K : PySem.W.Frag) (D a : Addr) : List V → Hp → VK → Prop := fun xs H Q => ∃ (c : V) (u : Value) (b : Bool), xs = [.ref a, c] ∧ ClsV c u ∧ PySem.W.kitOne K (.ref D) u = some b ∧ Q (.bl b) H
def rIsPT (K : PySem.W.Frag) (D a : Addr) : List V → Hp → VK → Prop := fun xs H Q => ∃ (tp : Addr) (cs : List V) (us : List Value) (b : Bool), xs = [.ref a, .ref tp] ∧ H tp = some (.tup cs) ∧ Paired ClsV cs us ∧ PySem.W.kitAny K (.ref D) us = some b ∧ Q (.bl b) H
section
variable {X : Cx} {a D : Addr} {oe : Obj}
theorem inst_at (hp : (a, oe) ∈ X.pn) (hz : L2N.Zn (.ref D) none oe) (hf : ∃ vs, oe.data = .fields vs) {pins : List (Addr × Obj)} {s : Shared} {σ : L2.St} {H : Hp} (I : Inv X pins σ H s) : PySem.W.InstAt s.heap a oe D none := by
  obtain ⟨g, _⟩ := I.pin (a, oe) (List.mem_append_left _ hp)
  obtain ⟨vs, hv⟩ := hf
  obtain ⟨oc, od, dt, sl⟩ := oe
  obtain ⟨h1, h2, _⟩ := hz
  dsimp only at h1 h2 hv
  subst h1 h2 hv
  exact ⟨g, rfl, rfl, trivial⟩
theorem call_isP (C : ExcC X.K D) (hp : (a, oe) ∈ X.pn) (hz : L2N.Zn (.ref D) none oe) (hf : ∃ vs, oe.data = .fields vs) : CallR X (.builtin "isinstance") (rIsP X.K D a) := by
  intro pins s σ H xs us Q I r h
  obtain ⟨c, u, b, rfl, k, e, q⟩ := h
  obtain ⟨u1, u2, rfl, r1, r2⟩ := vals2 r
  have e2 := k.eq r2
  subst e2
  cases (show u1 = Value.ref a from r1)
  exact PySem.W.kia_one (PySem.W.handS_kitx_exc C.hg C.hk C.hs C.hd C.ha C.hn C.ht C.hm) I.kIn (inst_at hp hz hf I) e (fun z => nomatch z) fun tk => ⟨.bl b, H, I.tok tk, rfl, q⟩
theorem call_isPT (C : ExcC X.K D) (hp : (a, oe) ∈ X.pn) (hz : L2N.Zn (.ref D) none oe) (hf : ∃ vs, oe.data = .fields vs) : CallR X (.builtin "isinstance") (rIsPT X.K D a) := by
  intro pins s σ H xs us Q I r h
  obtain ⟨tp, cs, ws, b, rfl, hT, k, e, q⟩ := h
  obtain ⟨u1, u2, rfl, r1, r2⟩ := vals2 r
  cases (show u2 = Value.ref tp from r2)
  cases (show u1 = Value.ref a from r1)
  obtain ⟨z, its, rv, o, y1, y2, n, y3⟩ := (show ObjOk X.prog X.w H s.heap tp (.tup cs) from I.hok tp _ hT)
  have e3 := ClsV.all k rv
  subst e3
  obtain ⟨oc, od, dt, sl⟩ := o
  simp only at y2 y3
  subst y2 y3
  exact PySem.W.kia_tup (PySem.W.handS_kitx_exc C.hg C.hk C.hs C.hd C.ha C.hn C.ht C.hm) I.kIn (inst_at hp hz hf I) y1 e (fun z => nomatch z) fun tk => ⟨.bl b, H, I.tok tk, rfl, q⟩
end
variable {G : Glb} {P : Prog} {tb : Tab}
/-- a def of one thing is run with the exception -/
def HotRun (G : Glb) (X : Cx) (a fa : Addr) (ev : Store → R T) : Prop := ∀ (pins : List (Addr × Obj)) (s : Shared) (σ : L2.St) (Q : VK) (w : Wd), Inv X pins σ w.H s → w.Ok G → PostF G w (ev w.st) Q (fun _ _ _ => False) →
  wpAny (model X.prog X.w) X.A (call (.ref fa) [.ref a]) (EP X pins σ Q) X.xe s
structure CtxH (G : Glb) (P : Prog) (tb : Tab) (X : Cx) (sc : Scope) (a : Addr) (k : Nat) (hc : Nat → Store → R T) : Prop where
  K : X.K = G.K
  mg : X.mg = G.mg
  wd : X.w = G.w
  hu : X.A.units + 68 < cLine
  hh : X.A.handled = some (.ref a)
  nd : X.N.Nodup
  scp : X.env.scope = sc
  pin : ∃ oe, (a, oe) ∈ X.pn ∧ L2N.Zn (.ref (G.cls k)) none oe ∧ ∃ vs, oe.data = .fields vs
  loc : LocOk X sc
  gl : GlbOk G P tb
  hot : HotOk G P tb
  ks : ∃ x, tb.exc[k]? = some (some x)
  run : ∀ f x, tb.hfn.lookup f = some x → HotRun G X a (G.fa f) (hc f)
section
variable {X : Cx} {sc : Scope} {a : Addr} {k : Nat} {hc : Nat → Store → R T}
theorem CtxH.hotc (c : CtxH G P tb X sc a k hc) : L2H.HotC X := by
  obtain ⟨oe, h1, h2, vs, h3⟩ := c.pin
  exact ⟨(a, oe), ⟨c.hh, vs, h3, h2.2.2 vs h3⟩, h1⟩
theorem CtxH.blt (c : CtxH G P tb X sc a k hc) {x : Str} (h : bltB tb sc x = true) : Gl X x ∧ (x == ("__debug__" : Str)) = false ∧ x ≠ "__name__" ∧ X.mg x = none := by
  unfold bltB at h
  simp only [Bool.and_eq_true, List.any_eq_true, decide_eq_true_eq] at h
  obtain ⟨h1, y, h2, rfl⟩ := h
  obtain ⟨a, b, d⟩ := glB_ok h1 c.scp
  exact ⟨a, b, d, by rw [c.mg]; exact c.gl.blt _ h2⟩
/-- the class that isinstance is asked for -/
def hTyV (G : Glb) : Ty → V
  | .own c => .ref (G.cls c)
  | _ => .ty "ValueError"
def hTyU (G : Glb) : Ty → Value
  | .own c => .ref (G.cls c)
  | _ => .type "ValueError"
theorem hTy_pe (c : CtxH G P tb X sc a k hc) {t : Ty} {p : Expr} (h : hTy tb sc t p = true) : PE X p (tC (hTyV G t)) ∧ plainB p = true ∧ ClsV (hTyV G t) (hTyU G t) ∧ PySem.W.kitOne X.K (.ref (G.cls k)) (hTyU G t) = some (P.sub k t) := by
  obtain ⟨xk, hk⟩ := c.ks
  cases t with
  | own d =>
    cases p <;> try exact no h rfl
    rename_i x pos
    have h : (glB sc x && decide (tb.exc[d]? = some (some x))) = true := h
    simp only [Bool.and_eq_true, decide_eq_true_eq] at h
    obtain ⟨ga, gb, gc⟩ := glB_ok h.1 c.scp
    have m := (c.gl.exc d x h.2).1
    exact ⟨pe_glob (v := .ref (G.cls d)) ga (by rw [c.mg]; exact m) rfl gb, rfl, .own _, by rw [c.K]; exact (c.hot.exm k d xk x hk h.2).2⟩
  | valueError =>
    cases p <;> try exact no h rfl
    rename_i x pos
    have h : (decide (x = "ValueError") && bltB tb sc x) = true := h
    simp only [Bool.and_eq_true, decide_eq_true_eq] at h
    obtain ⟨rfl, h1⟩ := h
    obtain ⟨ga, gb, gc, gd⟩ := c.blt h1
    exact ⟨pe_bltn (v := .ty "ValueError") ga gd rfl rfl gc gb, rfl, .ty _, by rw [c.K]; exact c.hot.ve k xk hk⟩
  | _ => cases p <;> exact no h rfl
theorem hTys_pa (c : CtxH G P tb X sc a k hc) : ∀ {cs : List Ty} {es : List Expr}, hTys tb sc cs es = true → PA X es (fun _ H Q => Q (cs.map (hTyV G)) H) ∧ es.all plainB = true ∧ Paired ClsV (cs.map (hTyV G)) (cs.map (hTyU G)) ∧ PySem.W.kitAny X.K (.ref (G.cls k)) (cs.map (hTyU G)) = some (cs.any (P.sub k))
  | [], [], _ => ⟨pa_nil, rfl, .nil, rfl⟩
  | [], _ :: _, h => no h rfl
  | _ :: _, [], h => no h rfl
  | t :: cs, e :: es, h => by
    have h : (hTy tb sc t e && hTys tb sc cs es) = true := h
    rw [Bool.and_eq_true] at h
    obtain ⟨a1, a2, a3, a4⟩ := hTy_pe c h.1
    obtain ⟨b1, b2, b3, b4⟩ := hTys_pa c h.2
    refine ⟨PA.imp (pa_cons a1 b1 (star_plain a2 _ _)) fun σ H Q q => q, by rw [List.all_cons, a2, b2]; rfl, .cons a3 b3, ?_⟩
    simp only [List.map_cons, PySem.W.kitAny, a4, List.any_cons]
    cases P.sub k t with
    | true => rfl
    | false => exact b4
end
/-! #### expressions -/
def tEh (G : Glb) (a : Addr) (i : Nat) (ev : Slots → Store → R T) : TE := fun σ H Q => σ[i]? = some (some (.ref a)) ∧ tEv G (fun _ _ _ _ => False) ev σ H Q
def tTh (G : Glb) (a : Addr) (i : Nat) (ev : Slots → Store → R T) : TT := fun σ H Q => σ[i]? = some (some (.ref a)) ∧ tTv G (fun _ _ _ _ => False) ev σ H Q
def tLh (G : Glb) (a : Addr) (i : Nat) (ev : Slots → Store → R (List T)) : TA := fun σ H Q => σ[i]? = some (some (.ref a)) ∧ tLv G (fun _ _ _ _ => False) ev σ H Q
section
variable (G : Glb) (P : Prog) (tb : Tab) (a : Addr) (i k : Nat) (hc : Nat → Store → R T)
def SHE (e : E) : Prop := ∀ (X : Cx) (sc : Scope) (p : Expr), CtxH G P tb X sc a k hc → hmE tb X.N i sc e p = true → PE X p (tEh G a i (hE (P.sub k) i hc e))
def SHT (e : E) : Prop := ∀ (X : Cx) (sc : Scope) (p : Expr), CtxH G P tb X sc a k hc → hmT tb X.N i sc e p = true → PT X p (tTh G a i (hE (P.sub k) i hc e))
def SHEs (es : Es) : Prop := ∀ (X : Cx) (sc : Scope) (ps : List Expr), CtxH G P tb X sc a k hc → hmEs tb X.N i sc es ps = true → PA X ps (tLh G a i (hEs (P.sub k) i hc es)) ∧ ps.all plainB = true
end
variable {a : Addr} {i k : Nat} {hc : Nat → Store → R T}
theorem th_of {X : Cx} {p : Expr} {ev : Slots → Store → R T} (h : PE X p (tEh G a i ev)) (e : truthB p = true) : PT X p (tTh G a i ev) :=
  PT.imp (pt_val h (truth_plain e _)) fun σ H Q ⟨hσ, q⟩ => ⟨hσ, q⟩
theorem h_lit {t : T} : SHE G P tb a i k hc (.lit t) := by
  intro X sc p c h
  cases p <;> try exact no h rfl
  rename_i cc j pos
  have h : (match (generalizing := false) litOf cc with
    | some u => eqLit t u
    | none => false) = true := h
  split at h
  · rename_i u q
    have e := eqLit_eq h
    subst e
    exact PE.imp (e_lit q) fun σ H Q ⟨_, h⟩ => h
  · cases h
theorem h_var {j : Nat} : SHE G P tb a i k hc (.var j) := by
  intro X sc p c h
  cases p <;> try exact no h rfl
  rename_i x pos
  refine PE.imp (e_var (G := G) (W := fun _ _ _ _ => False) c.scp (show nameB X.N sc j x = true from h)) fun σ H Q ⟨_, w, sl, e, ok, hs, h⟩ => ?_
  refine ⟨w, sl, e, ok, hs, ?_⟩
  simp only [hE] at h
  split at h
  · exact h.elim
  · exact h
theorem h_not {e : E} (ia : SHE G P tb a i k hc e) : SHE G P tb a i k hc (.not e) := by
  intro X sc p c h
  cases p <;> try exact no h rfl
  rename_i op ea pos
  cases op <;> try exact no h rfl
  have h : hmE tb X.N i sc e ea = true := h
  refine PE.imp (pe_not (ia X sc ea c h)) fun σ H Q ⟨hσ, w, sl, e, ok, hs, h⟩ => ?_
  subst e
  refine ⟨hσ, Post.bind Ev.refl h ok hs fun x st1 v w1 F1 h e1 ev1 ok1 r1 o1 => ?_⟩
  subst e1
  split at h
  · obtain ⟨rfl, rfl⟩ := RO_bl r1
    exact ⟨_, rfl, h.fin rfl ev1 ok1 (.cl (.bl _))⟩
  · exact h.elim
theorem h_and {e f : E} (ia : SHE G P tb a i k hc e) (ib : SHE G P tb a i k hc f) : SHE G P tb a i k hc (.and e f) := by
  intro X sc p c h
  cases p <;> try exact no h rfl
  rename_i op es pos
  cases op <;> try exact no h rfl
  match es, h with
  | [], h => exact no h rfl
  | [_], h => exact no h rfl
  | _ :: _ :: _ :: _, h => exact no h rfl
  | [ea, eb], h =>
    have h : (hmE tb X.N i sc e ea && hmE tb X.N i sc f eb) = true := h
    rw [Bool.and_eq_true] at h
    refine PE.imp (pe_and (ia X sc ea c h.1) (pe_one (ib X sc eb c h.2))) fun σ H Q ⟨hσ, w, sl, e, ok, hs, h⟩ => ?_
    subst e
    refine ⟨hσ, Post.bind Ev.refl h ok hs fun x st1 v w1 F1 h e1 ev1 ok1 r1 o1 => ?_⟩
    subst e1
    split at h
    · obtain ⟨rfl, rfl⟩ := RO_bl r1
      refine ⟨true, rfl, ?_⟩
      rw [if_pos rfl]
      exact ⟨hσ, w1, sl, rfl, ok1, hs.mono ev1 ok, Post.from ev1 h⟩
    · obtain ⟨rfl, rfl⟩ := RO_bl r1
      refine ⟨false, rfl, ?_⟩
      rw [if_neg (by decide)]
      exact h.fin rfl ev1 ok1 (.cl (.bl _))
    · exact h.elim
theorem h_or {e f : E} (ia : SHE G P tb a i k hc e) (ib : SHE G P tb a i k hc f) : SHE G P tb a i k hc (.or e f) := by
  intro X sc p c h
  cases p <;> try exact no h rfl
  rename_i op es pos
  cases op <;> try exact no h rfl
  match es, h with
  | [], h => exact no h rfl
  | [_], h => exact no h rfl
  | _ :: _ :: _ :: _, h => exact no h rfl
  | [ea, eb], h =>
    have h : (hmE tb X.N i sc e ea && hmE tb X.N i sc f eb) = true := h
    rw [Bool.and_eq_true] at h
    refine PE.imp (pe_or (ia X sc ea c h.1) (pe_one (ib X sc eb c h.2))) fun σ H Q ⟨hσ, w, sl, e, ok, hs, h⟩ => ?_
    subst e
    refine ⟨hσ, Post.bind Ev.refl h ok hs fun x st1 v w1 F1 h e1 ev1 ok1 r1 o1 => ?_⟩
    subst e1
    split at h
    · obtain ⟨rfl, rfl⟩ := RO_bl r1
      refine ⟨true, rfl, ?_⟩
      rw [if_pos rfl]
      exact h.fin rfl ev1 ok1 (.cl (.bl _))
    · obtain ⟨rfl, rfl⟩ := RO_bl r1
      refine ⟨false, rfl, ?_⟩
      rw [if_neg (by decide)]
      exact ⟨hσ, w1, sl, rfl, ok1, hs.mono ev1 ok, Post.from ev1 h⟩
    · exact h.elim
theorem h_isi {e : E} {cs : List Ty} : SHE G P tb a i k hc (.isi e cs) := by
  intro X sc p c h
  cases e <;> try (cases p <;> exact no h rfl)
  rename_i j
  cases p <;> try exact no h rfl
  rename_i fn args kw pos
  cases fn <;> try exact no h rfl
  rename_i x px
  match args, kw, h with
  | [], _, h => exact no h rfl
  | [e1], _, h => exact no h (by cases e1 <;> rfl)
  | [e1, e2], _ :: _, h => exact no h (by cases e1 <;> rfl)
  | e1 :: _ :: _ :: _, _, h => exact no h (by cases e1 <;> rfl)
  | [e1, ec], [], h =>
    cases e1 <;> try exact no h rfl
    rename_i y py
    obtain ⟨oe, hp, hz, hf⟩ := c.pin
    obtain ⟨xk, hk⟩ := c.ks
    have C : ExcC X.K (G.cls k) := by rw [c.K]; exact c.hot.cl k xk hk
    have h : (decide (x = "isinstance") && bltB tb sc x && decide (j = i) && nameB X.N sc j y && (match (generalizing := false) ec with
      | .Tuple es _ _ => hTys tb sc cs es && !cs.isEmpty && decide (cs.length < 100)
      | ec => hTys tb sc cs [ec])) = true := h
    simp only [Bool.and_eq_true, decide_eq_true_eq] at h
    obtain ⟨⟨⟨⟨rfl, h1⟩, rfl⟩, h2⟩, h3⟩ := h
    obtain ⟨ga, gb, gc, gd⟩ := c.blt h1
    unfold nameB at h2
    simp only [Bool.and_eq_true, decide_eq_true_eq, Bool.not_eq_true'] at h2
    obtain ⟨⟨⟨h2a, h2b⟩, h2c⟩, h2d⟩ := h2
    have pv := pe_var (X := X) (pos := py) h2a (by rw [c.scp]; exact visB_ok h2b) h2c h2d
    have ev : ∀ {st : Store} {sl : Slots}, hE (P.sub k) j hc (.isi (.var j) cs) sl st = .ok (.bl (cs.any (P.sub k))) st := fun {st sl} => by simp only [hE, if_true]
    have single : hTys tb sc cs [ec] = true → PE X (.Call (.Name "isinstance" px) [.Name y py, ec] [] pos) (tEh G a j (hE (P.sub k) j hc (.isi (.var j) cs))) := fun h3 => by
      match cs, h3 with
      | [], h3 => exact no h3 rfl
      | _ :: _ :: _, h3 => exact no h3 (by show (_ && false) = false; rw [Bool.and_false])
      | [t], h3 =>
        have h3 : (hTy tb sc t ec && true) = true := h3
        rw [Bool.and_true] at h3
        obtain ⟨b1, b2, b3, b4⟩ := hTy_pe c h3
        have hs2 := star_plain (e := ec) b2 [] X.env
        refine PE.imp (pe_callB (call_isP C hp hz hf) ga gd rfl (pa_cons pv (pa_cons b1 pa_nil hs2) rfl) gc gb rfl (stars_any (es := [ec]) (by rw [List.all_cons, b2]; rfl) _ _)) fun σ H Q ⟨hσ, w, sl, e, ok, hs, h⟩ => ?_
        subst e
        rw [ev] at h
        refine ⟨.ref a, hσ, hTyV G t, hTyU G t, P.sub k t, rfl, b3, b4, ?_⟩
        have := h.fin (v := .bl (P.sub k t)) rfl Ev.refl ok (by simp only [List.any_cons, List.any_nil, Bool.or_false]; exact .cl (.bl _))
        exact this
    cases ec with
    | Tuple es kk q =>
      have h3 : (hTys tb sc cs es && !cs.isEmpty && decide (cs.length < 100)) = true := h3
      simp only [Bool.and_eq_true, decide_eq_true_eq] at h3
      obtain ⟨⟨h3a, h3b⟩, h3c⟩ := h3
      obtain ⟨b1, b2, b3, b4⟩ := hTys_pa c h3a
      have hs2 := star_plain (e := .Tuple es kk q) rfl [] X.env
      refine PE.imp (pe_callB (call_isPT C hp hz hf) ga gd rfl (pa_cons pv (pa_cons (pe_tup b1) pa_nil hs2) rfl) gc gb rfl (stars_any (es := [.Tuple es kk q]) rfl _ _)) fun σ H Q ⟨hσ, w, sl, e, ok, hs, h⟩ => ?_
      subst e
      rw [ev] at h
      refine ⟨.ref a, hσ, ?_, fun p hp2 => ⟨p, _, _, cs.any (P.sub k), rfl, upd_same, b3, b4, ?_⟩⟩
      · rw [List.length_map]
        have : (100 : Nat) ≤ sizeLine := by decide
        omega
      · exact Post.fin (t := .bl (cs.any (P.sub k))) (w1 := w.addF p (.tup (cs.map (hTyV G)))) h rfl (Ev.addF hp2) (ok.addF hp2) (.cl (.bl _))
    | _ => exact single h3
theorem h_keep {d : Nat} {e : E} (ie : SHE G P tb a i k hc e) : SHE G P tb a i k hc (.keep d e) := by
  intro X sc p c h
  have h : hmE tb X.N i sc e p = true := by cases p <;> exact h
  refine PE.imp (ie X sc p c h) fun σ H Q ⟨hσ, w, sl, e, ok, hs, h⟩ => ?_
  subst e
  refine ⟨hσ, Post.bind Ev.refl h ok hs fun x st1 v w1 F1 h e1 ev1 ok1 r1 o1 => ?_⟩
  subst e1
  cases q : kp d x w1.st with
  | none => rw [q] at h; exact h.elim
  | some z =>
    obtain ⟨t, st2⟩ := z
    rw [q] at h
    obtain ⟨w2, e2, g2, c2⟩ := kp_ok d x ok1 r1 o1 q
    subst e2
    rw [← g2.H]
    exact h.fin rfl (g2.ev ev1 o1.new) g2.ok c2
theorem h_lst {es : Es} (ie : SHEs G P tb a i k hc es) : SHE G P tb a i k hc (.lst es) := by
  intro X sc p c h
  cases p <;> try exact no h rfl
  rename_i ps pos
  have h : hmEs tb X.N i sc es ps = true := h
  refine PE.imp (pe_lst (ie X sc ps c h).1) fun σ H Q ⟨hσ, w, sl, e, ok, hs, h⟩ => ?_
  subst e
  refine ⟨hσ, Post.bindL Ev.refl h ok hs fun xs st1 vs w1 F1 h e1 ev1 ok1 r1 o1 => ?_⟩
  subst e1
  rcases fzsR_or xs w1.st with ⟨ys, st2, q⟩ | q
  · rw [q] at h
    obtain ⟨w2, e2, m2, c2⟩ := fzsR_ok ok1 r1 o1 q
    simp only [R.bind] at h
    split at h
    · rename_i hl
      refine ⟨by rw [c2.length]; exact lenOk_le hl, fun p hp => ?_⟩
      have hp2 : w2.H p = none := by rw [m2.H]; exact hp
      have ev2 := m2.ev ev1 o1.new
      rw [← m2.H]
      exact h.newOwn e2 ev2 m2.ok hp2 (g := .lst) upd_same c2
    · exact h.elim
  · rw [q] at h
    exact h.elim
theorem h_call {f : Nat} {es : Es} : SHE G P tb a i k hc (.call f es) := by
  intro X sc p c h
  match es, h with
  | .nil, h => cases p <;> exact no h rfl
  | .cons e0 (.cons _ _), h => cases p <;> exact no h (by cases e0 <;> rfl)
  | .cons e0 .nil, h =>
    cases e0 <;> try (cases p <;> exact no h rfl)
    rename_i j
    cases p <;> try exact no h rfl
    rename_i fn args kw pos _
    match args, kw, h with
    | [], _, h => exact no h (by cases fn <;> rfl)
    | e1 :: _ :: _, _, h => exact no h (by cases fn <;> cases e1 <;> rfl)
    | [e1], _ :: _, h => exact no h (by cases fn <;> cases e1 <;> rfl)
    | [e1], [], h =>
      cases e1 <;> cases fn <;> try exact no h rfl
      rename_i y py x px _ _
      have h : (glB sc x && decide (tb.hfn.lookup f = some x) && decide (j = i) && nameB X.N sc j y) = true := h
      simp only [Bool.and_eq_true, decide_eq_true_eq] at h
      obtain ⟨⟨⟨h1, h2⟩, rfl⟩, h3⟩ := h
      obtain ⟨ga, gb, gc⟩ := glB_ok h1 c.scp
      unfold nameB at h3
      simp only [Bool.and_eq_true, decide_eq_true_eq, Bool.not_eq_true'] at h3
      obtain ⟨⟨⟨h3a, h3b⟩, h3c⟩, h3d⟩ := h3
      obtain ⟨F, hF, hot⟩ := c.hot.fn f x h2
      have pv := pe_var (X := X) (pos := py) h3a (by rw [c.scp]; exact visB_ok h3b) h3c h3d
      have pa : PA X [.Name y py] (fun σ H Q => ∃ v, σ[j]? = some (some v) ∧ Q [v] H) := PA.imp (pa_cons pv pa_nil rfl) fun σ H Q q => q
      refine ⟨fun pins s σ H Q I ⟨hσ, w, sl, e, ok, hs, q⟩ => ?_⟩
      subst e
      have q : PostF G w (hc f w.st) Q (fun _ _ _ => False) := by
        simp only [hE, if_true] at q
        cases z : hc f w.st with
        | ok t st => rw [z] at q; exact fun v w' F a _ b d e g => q v w' F a b d e g
        | exc _ st => rw [z] at q; exact fun w' a _ b d => q w' a b d
        | bad => rw [z] at q; exact q
      refine wpAny_Call_Name_kw (ld_glob I ga (by rw [c.mg]; exact hot.mg) ?_ gb)
      refine PySem.W.callWith_K (h₀ := X.base) I.ok.mod.kin (by rw [c.K]; exact hot.kp) (thn (pa.run pos pins s σ w.H (fun vs H1 => vs = [.ref a] ∧ H1 = w.H) I ⟨.ref a, hσ, rfl, rfl⟩) fun us s1 ⟨vs, H1, I1, r, e1, e2⟩ => ⟨I1.kIn, ?_⟩) rfl rfl
      subst e1 e2
      obtain ⟨u, rfl, ru⟩ := Vals.one r
      cases (show u = Value.ref a from ru)
      exact c.run f x h2 pins s1 σ Q w I1 ok q
theorem h_bm_g {o : E} {es : Es} (io : SHE G P tb a i k hc o) (ie : SHEs G P tb a i k hc es) {m : Bm} {nm : Str} {id : String} {r : V → List V → Hp → VK → Prop} (slot : Slot "list" nm id) (hn : bmNm m = nm) (hty : typeOf (.builtin id) = pure (.type "method_descriptor")) (hm0 : ∀ X : Cx, X.K = G.K → X.A.units + 65 < cLine → MtM X id r) (hb : hbmOk m = true)
    (hr : ∀ {W : WX} {w w2 : Wd} {σ : L2.St} {x : T} {xs : List T} {v : V} {vs : List V} {F F2 : List Addr} {Q : VK}, Post G W w σ (bmR m x xs w2.st) Q → Ev w w2 → w2.Ok G → w2.RO G v x F → w2.ROs G vs xs F2 → Own w w2 F2 → r v vs w2.H Q) :
    SHE G P tb a i k hc (.bm m o es) := by
  intro X sc p c h
  cases p <;> try exact no h rfl
  rename_i fn ps kw pos
  cases fn <;> try exact no h rfl
  rename_i eo nm' apos
  cases kw with
  | cons _ _ => exact no h rfl
  | nil =>
    have h : (hbmOk m && decide (nm' = bmNm m) && hmE tb X.N i sc o eo && baseB eo && hmEs tb X.N i sc es ps && (apos.endLine == pos.line) && decide (ps.length < 20)) = true := h
    simp only [Bool.and_eq_true, decide_eq_true_eq] at h
    obtain ⟨⟨⟨⟨⟨⟨_, rfl⟩, h1⟩, h2⟩, h3⟩, h4⟩, h5⟩ := h
    subst hn
    have hm : MtM X id r := hm0 X c.K (by have := c.hu; omega)
    obtain ⟨pa, pl⟩ := ie X sc ps c h3
    cases ps with
    | nil =>
      have hes : es = .nil := by cases es with | nil => rfl | cons _ _ => exact no h3 rfl
      subst hes
      refine PE.imp (pe_bm0 PySem.F.plainAttrs_list slot hty hm (io X sc eo c h1) (base_plain h2 _ _ _) h4) fun σ H Q ⟨hσ, w, sl, e, ok, hs, h⟩ => ?_
      subst e
      simp only [hE, hb, if_true] at h
      refine ⟨hσ, Post.bind Ev.refl h ok hs fun x st1 v w1 F1 h e1 ev1 ok1 r1 o1 => ?_⟩
      subst e1
      split at h
      · rename_i hl
        exact ⟨isLst_ty ok1 r1 hl, hr h ev1 ok1 r1 .nil Own.nil⟩
      · exact h.elim
    | cons e ps =>
      have pl2 := pl
      rw [List.all_cons, Bool.and_eq_true] at pl2
      refine PE.imp (pe_bm PySem.F.plainAttrs_list slot hty hm (io X sc eo c h1) pa (base_plain h2 _ _ _) (meth_few pl h5) h4 (star_plain pl2.1 _ _) (stars_any pl2.2 _ _)) fun σ H Q ⟨hσ, w, sl, e, ok, hs, h⟩ => ?_
      subst e
      simp only [hE, hb, if_true] at h
      refine ⟨hσ, Post.bind Ev.refl h ok hs fun x st1 v w1 F1 h e1 ev1 ok1 r1 o1 => ?_⟩
      subst e1
      split at h
      · rename_i hl
        refine ⟨isLst_ty ok1 r1 hl, hσ, ?_⟩
        refine Post.bindL ev1 h ok1 (hs.mono ev1 ok) fun xs st2 vs w2 F2 h e2 ev2 ok2 r2 o2 => ?_
        subst e2
        exact hr h (ev1.trans ev2) ok2 (ev2.ro ok1 o1 r1) r2 (o2.back ev1)
      · exact h.elim
theorem h_bm {m : Bm} {o : E} {es : Es} (io : SHE G P tb a i k hc o) (ie : SHEs G P tb a i k hc es) : SHE G P tb a i k hc (.bm m o es) := by
  cases m
  case append => exact h_bm_g io ie PySem.F.slot_list_append rfl PySem.F.type_list_append (fun X _ _ => mt_append) rfl bm_append
  case count => exact h_bm_g io ie PySem.F.slot_list_count rfl PySem.F.type_list_count (fun X e hu => by rw [← e]; exact mt_lcountX hu) rfl cnt_ok
  case index => exact h_bm_g io ie PySem.F.slot_list_index rfl PySem.F.type_list_index (fun X e hu => by rw [← e]; exact mt_indexD hu) rfl ix_of_ok
  all_goals
    intro X sc p c h
    exact pe_no fun σ H Q ⟨_, w, sl, e, ok, hs, h⟩ => by simp only [hE, hbmOk] at h; exact h
theorem hm_cmp {op : CmpOp} {x y : E} {X : Cx} {sc : Scope} {p : Expr} (h : hmE tb X.N i sc (.cmp op x y) p = true) : ∃ ea eb pos, p = .Compare ea [op] [eb] pos ∧ hmE tb X.N i sc x ea = true ∧ hmE tb X.N i sc y eb = true ∧ behindInMarks op eb = false := by
  cases p <;> try exact no h rfl
  rename_i ea ops cs pos
  match ops, cs, h with
  | [], _, h => exact no h rfl
  | _ :: _ :: _, [], h => exact no h rfl
  | _ :: _ :: _, _ :: _, h => exact no h rfl
  | [_], [], h => exact no h rfl
  | [_], _ :: _ :: _, h => exact no h rfl
  | [op'], [eb], h =>
    have h : (decide (op = op') && hmE tb X.N i sc x ea && hmE tb X.N i sc y eb && !(behindInMarks op eb)) = true := h
    simp only [Bool.and_eq_true, decide_eq_true_eq, Bool.not_eq_true'] at h
    obtain ⟨⟨⟨rfl, h1⟩, h2⟩, h3⟩ := h
    exact ⟨_, _, _, rfl, h1, h2, h3⟩
theorem h_two {x y : E} {X : Cx} {sc : Scope} (c : CtxH G P tb X sc a k hc) {r : R2} {f : T → T → Store → R T} (hok : OpOk G (fun _ _ _ _ => False) r f) {w : Wd} {σ : L2.St} {sl : Slots} {Q : VK} (hσ : σ[i]? = some (some (.ref a))) (ok : w.Ok G) (hs : SlotR G w σ sl)
    (h : Post G (fun _ _ _ _ => False) w σ ((hE (P.sub k) i hc x sl w.st).bind fun u st => (hE (P.sub k) i hc y sl st).bind fun v st => f u v st) Q) :
    tEh G a i (hE (P.sub k) i hc x) σ w.H fun u H1 => tEh G a i (hE (P.sub k) i hc y) σ H1 fun v H2 => r u v H2 Q := by
  refine ⟨hσ, Post.bind Ev.refl h ok hs fun x st1 v w1 F1 h e1 ev1 ok1 r1 o1 => ?_⟩
  subst e1
  refine ⟨hσ, Post.bind ev1 h ok1 (hs.mono ev1 ok) fun y st2 u w2 F2 h e2 ev2 ok2 r2 o2 => ?_⟩
  subst e2
  exact hok w w2 σ x y v u F1 F2 Q h (ev1.trans ev2) ok2 (ev2.ro ok1 o1 r1) r2 ((o1.mono ev2 (RepO.trk r1)).both o2 ev1 (RepO.trk r1))
theorem h_cmp {op : CmpOp} {x y : E} (ia : SHE G P tb a i k hc x) (ib : SHE G P tb a i k hc y) : SHE G P tb a i k hc (.cmp op x y) := by
  intro X sc p c h
  obtain ⟨ea, eb, pos, rfl, h1, h2, h3⟩ := hm_cmp h
  obtain ⟨r, hr, hok⟩ := cmpop_ok (G := G) (W := fun _ _ _ _ => False) c.K c.wd c.hu op
  exact PE.imp (pe_cmpR hr (ia X sc ea c h1) (ib X sc eb c h2) h3) fun σ H Q ⟨hσ, w, sl, e, ok, hs, h⟩ => by
    subst e
    exact h_two c hok hσ ok hs h
theorem h_bin {op : Operator} {x y : E} (ia : SHE G P tb a i k hc x) (ib : SHE G P tb a i k hc y) : SHE G P tb a i k hc (.bin op x y) := by
  intro X sc p c h
  cases p <;> try exact no h rfl
  rename_i ea op' eb pos
  have h : (decide (op = op') && hmE tb X.N i sc x ea && hmE tb X.N i sc y eb) = true := h
  simp only [Bool.and_eq_true, decide_eq_true_eq] at h
  obtain ⟨⟨rfl, h1⟩, h2⟩ := h
  obtain ⟨r, hr, hok⟩ := binop_ok (G := G) (W := fun _ _ _ _ => False) c.K op
  exact PE.imp (pe_op hr (ia X sc ea c h1) (ib X sc eb c h2)) fun σ H Q ⟨hσ, w, sl, e, ok, hs, h⟩ => by
    subst e
    exact h_two c hok hσ ok hs h
theorem h_idx {x y : E} (ia : SHE G P tb a i k hc x) (ib : SHE G P tb a i k hc y) : SHE G P tb a i k hc (.idx x y) := by
  intro X sc p c h
  cases p <;> try exact no h rfl
  rename_i ea eb pos
  have h : (hmE tb X.N i sc x ea && hmE tb X.N i sc y eb && plainB eb) = true := h
  simp only [Bool.and_eq_true] at h
  exact PE.imp (pe_ix (IxR.or ix_seq (ix_dct (by have := c.hu; omega))) (ia X sc ea c h.1.1) (ib X sc eb c h.1.2) (plainIx h.2)) fun σ H Q ⟨hσ, w, sl, e, ok, hs, h⟩ => by
    subst e
    exact h_two c (idxT_ok c.K c.wd) hσ ok hs h
theorem hm_comp {e d : E} {b : Bool} {tg : Tg} {it : It} {X : Cx} {sc : Scope} {p : Expr} (h : hmE tb X.N i sc (.comp e b tg it d) p = true) : ∃ (k j : Nat) (n : Int) (x y : Str) (p0 p1 p2 p3 p4 p5 p6 p7 : Pos) (cc : Const) (m : Nat) (pc : Pos) (scope : Scope),
    e = .var k ∧ b = false ∧ tg = .name k ∧ it = .rng1 (.lit (.int n)) ∧ d = .idx (.var j) (.var k) ∧ p = .ListComp (.Name x p0) [⟨.Name x p1, .Call (.Name "range" p2) [.Constant cc m pc] [] p3, [.Subscript (.Name y p4) (.Name x p5) p6], 0⟩] scope p7 ∧
    (j ≠ k ∧ 0 ≤ n ∧ n ≤ 100) ∧ (blkC X.N sc scope [(x, k)] = true ∧ X.N[k]? = some x ∧ locB scope x true = true) ∧ (nameB X.N (relB sc scope) k x = true ∧ nameB X.N (relB sc scope) j y = true) ∧ bltB tb sc "range" = true ∧ litOf cc = some (.int n) := by
  cases p <;> try exact no h rfl
  rename_i ee gs scope pos
  cases gs with
  | nil => exact no h rfl
  | cons g r =>
    obtain ⟨etg, ei, ifs, ia⟩ := g
    cases r with
    | cons _ _ => exact no h (by cases ia with | ofNat k => cases k <;> rfl | negSucc k => rfl)
    | nil =>
      cases ia with
      | negSucc k => exact no h rfl
      | ofNat k =>
        cases k with
        | succ k => exact no h rfl
        | zero =>
          have h : hmComp tb X.N sc e b tg it d ee etg ei ifs scope = true := h
          unfold hmComp at h
          split at h
          · simp only [Bool.and_eq_true, decide_eq_true_eq] at h
            obtain ⟨⟨⟨⟨⟨⟨⟨rfl, rfl⟩, h1⟩, h2⟩, ⟨⟨⟨⟨rfl, rfl⟩, h3⟩, h4⟩, h5⟩⟩, h6⟩, ⟨rfl, h7⟩⟩, h8⟩ := h
            refine ⟨_, _, _, _, _, _, _, _, _, _, _, _, _, _, _, _, _, rfl, rfl, rfl, rfl, rfl, rfl, ⟨h1, h2⟩, ⟨h3, h4, h5⟩, h6, h7, ?_⟩
            split at h8
            · rename_i u q
              rw [q, eqLit_eq h8]
            · cases h8
          · cases h
theorem picks_c {w : Wd} (bs : List Bool) : ∀ m : Nat, w.RCs G (pkV bs m) (((List.range m).filter fun i => bs[i]? == some true).map fun i : Nat => T.int (i : Int))
  | 0 => .nil
  | m + 1 => by
    have ih := picks_c (w := w) bs m
    rw [List.range_succ, List.filter_append, List.map_append]
    by_cases h : bs[m]? = some true
    · rw [pkV_yes h]
      refine ih.append ?_
      simp only [h, List.filter_cons, beq_self_eq_true, if_true, List.filter_nil, List.map_cons, List.map_nil]
      exact .cons (.int _) .nil
    · have e : pkV bs (m + 1) = pkV bs m := by
        unfold pkV
        rw [List.range_succ, List.filter_append, List.map_append]
        simp [h]
      rw [e]
      simpa [h] using ih
theorem h_comp {e d : E} {b : Bool} {tg : Tg} {it : It} : SHE G P tb a i k hc (.comp e b tg it d) := by
  intro X sc p c h
  obtain ⟨kk, j, n, x, y, p0, p1, p2, p3, p4, p5, p6, p7, cc, m, pc, scope, rfl, rfl, rfl, rfl, rfl, rfl, ⟨jk, n0, n1⟩, ⟨b1, b2, b3⟩, ⟨b4, b5⟩, b6, b7⟩ := hm_comp h
  obtain ⟨ga, gb, gc, gd⟩ := c.blt b6
  have bo : BlkOk X.N X.env.scope scope [(x, kk)] := blkOk_by (by rw [c.scp]; exact b1)
  have nm : ∀ {l : Nat} {z : Str}, nameB X.N (relB sc scope) l z = true → ∀ (s : Shared) (H : Hp) (C : Addr) (cl : List (Str × Addr)) (fp : List Addr) (q : Pos), PE (X.blk s H scope (compEnvC scope cl C X.env) fp) (.Name z q) (tVar l) := fun {l z} h s H C cl fp q => by
    unfold nameB at h
    simp only [Bool.and_eq_true, decide_eq_true_eq, Bool.not_eq_true'] at h
    obtain ⟨⟨⟨z1, z2⟩, z3⟩, z4⟩ := h
    exact pe_var (X := X.blk s H scope (compEnvC scope cl C X.env) fp) z1 (visB_ok (by rw [← c.scp] at z2; exact z2)) z3 z4
  obtain ⟨N, rfl⟩ : ∃ N : Nat, n = N := ⟨n.toNat, by omega⟩
  have cst : PA X [.Constant cc m pc] fun _ H Q => Q [.int (N : Int)] H := by
    cases cc <;> simp only [litOf, Option.some.injEq, reduceCtorEq] at b7
    rw [← (show _ = (N : Int) from by injection b7)]
    exact PA.imp (pa_cons pe_int pa_nil rfl) fun σ H Q q => q
  have at_ : ∀ (s : Shared) (H : Hp) (C : Addr) (cl : List (Str × Addr)) (fp : List Addr), PT (X.blk s H scope (compEnvC scope cl C X.env) fp) (.Subscript (.Name y p4) (.Name x p5) p6) (tAt X.K j kk) := fun s H C cl fp =>
    PT.imp (pt_val (pe_ix (ix_seq (X := X.blk s H scope (compEnvC scope cl C X.env) fp)) (nm b5 s H C cl fp p4) (nm b4 s H C cl fp p5) (plainIx rfl))) fun σ H Q ⟨q, vs, l, bb, s1, s2, s3, s4, s5⟩ =>
      ⟨_, s1, _, s3, .inl ⟨q, vs, _, _, rfl, rfl, s2, by
        have hl : l < vs.length := (List.getElem?_eq_some_iff.mp s4).1
        unfold atI ixN
        rw [if_pos (by omega), if_pos (by omega)]
        exact s4, bb, rfl, s5⟩⟩
  have pg : ∀ (s : Shared) (H : Hp) (C : Addr) (cl : List (Str × Addr)) (fp : List Addr), PG (X.blk s H scope (compEnvC scope cl C X.env) fp) (.Name x p1) (gName kk) := fun s H C cl fp => by
    obtain ⟨l1, l2⟩ := locOk_blk c.scp s H scope cl C fp x b3
    exact pg_name (X := X.blk s H scope (compEnvC scope cl C X.env) fp) c.nd b2 l1 l2
  refine PE.imp (pick_core (n := N) c.hotc c.nd bo jk pg at_ (fun s H C cl fp => nm b4 s H C cl fp p0) ga gd cst rfl (by omega)) fun σ H Q ⟨hσ, w, sl, e, ok, hs, h⟩ => ?_
  subst e
  simp only [hE, hComp] at h
  split at h
  · split at h
    · rename_i t ht
      cases q : lstOf w.st t with
      | none => rw [q] at h; exact h.elim
      | some ys =>
        rw [q, Option.bind_some] at h
        cases q2 : boolsOf ys with
        | none => rw [q2] at h; exact h.elim
        | some bs =>
          rw [q2] at h
          dsimp only at h
          split at h
          · rename_i hl
            obtain ⟨v, hv, rv⟩ := hs.get j t ht
            obtain ⟨q0, us, F', rfl, ha, cs, sb⟩ := lst_of ok (RepO.of0 rv) q
            rw [bools_of cs q2] at ha
            have e1 : bs.length = N := by simpa using hl
            refine ⟨q0, bs, hv, SqL.of ha, e1, fun D hD => ?_⟩
            refine h.newOwn rfl Ev.refl ok hD (g := .lst) upd_same ?_
            rw [← e1]
            exact picks_c bs bs.length
          · exact h.elim
    · exact h.elim
  · exact h.elim
theorem hs_nil : SHEs G P tb a i k hc .nil := by
  intro X sc ps c h
  cases ps with
  | nil => exact ⟨PA.imp pa_nil fun σ H Q ⟨_, w, sl, e, ok, hs, h⟩ => by subst e; exact h [] w [] rfl Ev.refl ok .nil Own.nil, rfl⟩
  | cons _ _ => exact no h rfl
theorem hs_cons {e : E} {es : Es} (ie : SHE G P tb a i k hc e) (is : SHEs G P tb a i k hc es) : SHEs G P tb a i k hc (.cons e es) := by
  intro X sc ps c h
  cases ps with
  | nil => exact no h rfl
  | cons p ps =>
    have h : (hmE tb X.N i sc e p && plainB p && hmEs tb X.N i sc es ps) = true := h
    simp only [Bool.and_eq_true] at h
    obtain ⟨⟨h1, h2⟩, h3⟩ := h
    obtain ⟨i1, i2⟩ := is X sc ps c h3
    refine ⟨PA.imp (pa_cons (ie X sc p c h1) i1 (star_plain h2 _ _)) fun σ H Q ⟨hσ, w, sl, e, ok, hs, h⟩ => ?_, by rw [List.all_cons, h2, i2]; rfl⟩
    subst e
    refine ⟨hσ, PostL.bind Ev.refl h ok hs fun x st1 v w1 F1 h e1 ev1 ok1 r1 o1 => ?_⟩
    subst e1
    refine ⟨hσ, PostL.bindL ev1 h ok1 (hs.mono ev1 ok) fun xs st2 vs w2 F2 h e2 ev2 ok2 r2 o2 => ?_⟩
    subst e2
    exact h _ w2 _ rfl (ev1.trans ev2) ok2 (.cons (ev2.ro ok1 o1 r1) r2) ((o1.mono ev2 (RepO.trk r1)).both o2 ev1 (RepO.trk r1))
section
variable (G P tb a i k hc)
mutual
theorem okHE : ∀ e : E, SHE G P tb a i k hc e
  | .lit _ => h_lit
  | .var _ => h_var
  | .not a => h_not (okHE a)
  | .and a b => h_and (okHE a) (okHE b)
  | .or a b => h_or (okHE a) (okHE b)
  | .isi _ _ => h_isi
  | .lst es => h_lst (okHEs es)
  | .keep _ e => h_keep (okHE e)
  | .call _ _ => h_call
  | .bm _ o es => h_bm (okHE o) (okHEs es)
  | .glb _ _ => fun X sc p c h => by cases p <;> exact no h rfl
  | .bin _ x y => h_bin (okHE x) (okHE y)
  | .neg _ => fun X sc p c h => by cases p <;> exact no h rfl
  | .cmp _ x y => h_cmp (okHE x) (okHE y)
  | .chain _ _ _ _ _ => fun X sc p c h => by cases p <;> exact no h rfl
  | .ife _ _ _ => fun X sc p c h => by cases p <;> exact no h rfl
  | .tup _ => fun X sc p c h => by cases p <;> exact no h rfl
  | .tupX _ => fun X sc p c h => by cases p <;> exact no h rfl
  | .lstX _ => fun X sc p c h => by cases p <;> exact no h rfl
  | .dic _ _ => fun X sc p c h => by cases p <;> exact no h rfl
  | .idx x y => h_idx (okHE x) (okHE y)
  | .slc _ _ _ => fun X sc p c h => by cases p <;> exact no h rfl
  | .minD _ => fun X sc p c h => by cases p <;> exact no h rfl
  | .lrng _ => fun X sc p c h => by cases p <;> exact no h rfl
  | .dis _ _ => fun X sc p c h => by cases p <;> exact no h rfl
  | .back _ => fun X sc p c h => by cases p <;> exact no h rfl
  | .nop => fun X sc p c h => by cases p <;> exact no h rfl
  | .make _ _ => fun X sc p c h => by cases p <;> exact no h rfl
  | .meth _ _ _ => fun X sc p c h => by cases p <;> exact no h rfl
  | .fld _ _ => fun X sc p c h => by cases p <;> exact no h rfl
  | .bi _ _ => fun X sc p c h => by cases p <;> exact no h rfl
  | .comp _ _ _ _ _ => h_comp
termination_by structural e => e
theorem okHEs : ∀ es : Es, SHEs G P tb a i k hc es
  | .nil => hs_nil
  | .cons e es => hs_cons (okHE e) (okHEs es)
termination_by structural es => es
end
end
end PC
namespace PC
open PySem PySem.Spec PyProof.Rows L2
variable {G : Glb} {P : Prog} {tb : Tab} {a : Addr} {i k : Nat} {hc : Nat → Store → R T}
/-! #### except suites: tests -/
theorem ht_gen {e : E} {X : Cx} {sc : Scope} {p : Expr} (c : CtxH G P tb X sc a k hc) (h : (hmE tb X.N i sc e p && truthB p) = true) : PT X p (tTh G a i (hE (P.sub k) i hc e)) := by
  rw [Bool.and_eq_true] at h
  exact th_of (okHE G P tb a i k hc e X sc p c h.1) h.2
theorem ht_not {e : E} (ia : SHT G P tb a i k hc e) : SHT G P tb a i k hc (.not e) := by
  intro X sc p c h
  cases p with
  | UnaryOp op ea pos =>
    cases op with
    | Not =>
      have h : hmT tb X.N i sc e ea = true := h
      refine PT.imp (pt_not (ia X sc ea c h)) fun σ H Q ⟨hσ, w, sl, e, ok, hs, h⟩ => ?_
      subst e
      refine ⟨hσ, Post.bindT Ev.refl h ok hs fun x st1 v w1 F1 h e1 ev1 ok1 r1 o1 => ?_⟩
      subst e1
      split at h
      · obtain ⟨rfl, rfl⟩ := RO_bl r1
        obtain ⟨b, e, q⟩ := h.fin rfl ev1 ok1 (.cl (.bl _))
        cases e
        exact ⟨_, rfl, q⟩
      · exact h.elim
    | _ => exact ht_gen c h
  | _ => exact ht_gen c h
theorem ht_and {e f : E} (ia : SHT G P tb a i k hc e) (ib : SHT G P tb a i k hc f) : SHT G P tb a i k hc (.and e f) := by
  intro X sc p c h
  cases p with
  | BoolOp op es pos =>
    cases op with
    | And =>
      match es, h with
      | [], h => exact ht_gen c h
      | [_], h => exact ht_gen c h
      | _ :: _ :: _ :: _, h => exact ht_gen c h
      | [ea, eb], h =>
        have h : (hmT tb X.N i sc e ea && hmT tb X.N i sc f eb) = true := h
        rw [Bool.and_eq_true] at h
        refine PT.imp (pw_and (ia X sc ea c h.1) (pw_and1 (ib X sc eb c h.2))).pt fun σ H Q ⟨hσ, w, sl, e, ok, hs, h⟩ => ?_
        subst e
        refine ⟨hσ, Post.bindT Ev.refl h ok hs fun x st1 v w1 F1 h e1 ev1 ok1 r1 o1 => ?_⟩
        subst e1
        split at h
        · obtain ⟨rfl, rfl⟩ := RO_bl r1
          refine ⟨true, rfl, ?_⟩
          rw [if_pos rfl]
          exact ⟨hσ, w1, sl, rfl, ok1, hs.mono ev1 ok, Post.from ev1 h⟩
        · obtain ⟨rfl, rfl⟩ := RO_bl r1
          refine ⟨false, rfl, ?_⟩
          rw [if_neg (by decide)]
          obtain ⟨b, e, q⟩ := h.fin rfl ev1 ok1 (.cl (.bl _))
          cases e
          exact q
        · exact h.elim
    | _ => exact ht_gen c h
  | _ => exact ht_gen c h
theorem ht_or {e f : E} (ia : SHT G P tb a i k hc e) (ib : SHT G P tb a i k hc f) : SHT G P tb a i k hc (.or e f) := by
  intro X sc p c h
  have rest : ∀ {ea : Expr} {es : List Expr} {pos : Pos}, hmT tb X.N i sc e ea = true → PW X (.BoolOp .Or es pos) (tTh G a i (hE (P.sub k) i hc f)) → 1 ≤ es.length → PT X (.BoolOp .Or (ea :: es) pos) (tTh G a i (hE (P.sub k) i hc (.or e f))) := fun {ea es pos} h1 hb hl => by
    match es, hl with
    | eb :: es, _ =>
      refine PT.imp (pw_or (ia X sc ea c h1) hb).pt fun σ H Q ⟨hσ, w, sl, e, ok, hs, h⟩ => ?_
      subst e
      refine ⟨hσ, Post.bindT Ev.refl h ok hs fun x st1 v w1 F1 h e1 ev1 ok1 r1 o1 => ?_⟩
      subst e1
      split at h
      · obtain ⟨rfl, rfl⟩ := RO_bl r1
        refine ⟨true, rfl, ?_⟩
        rw [if_pos rfl]
        obtain ⟨b, e, q⟩ := h.fin rfl ev1 ok1 (.cl (.bl _))
        cases e
        exact q
      · obtain ⟨rfl, rfl⟩ := RO_bl r1
        refine ⟨false, rfl, ?_⟩
        rw [if_neg (by decide)]
        exact ⟨hσ, w1, sl, rfl, ok1, hs.mono ev1 ok, Post.from ev1 h⟩
      · exact h.elim
  cases p with
  | BoolOp op es pos =>
    cases op with
    | Or =>
      match es, h with
      | [], h => exact ht_gen c h
      | [_], h => exact ht_gen c h
      | [ea, eb], h =>
        have h : (hmT tb X.N i sc e ea && hmT tb X.N i sc f eb) = true := h
        rw [Bool.and_eq_true] at h
        exact rest h.1 (pw_or1 (ib X sc eb c h.2)) (Nat.le_refl _)
      | ea :: eb :: ec :: es, h =>
        have h : (hmT tb X.N i sc e ea && hmT tb X.N i sc f (.BoolOp .Or (eb :: ec :: es) pos)) = true := h
        rw [Bool.and_eq_true] at h
        exact rest h.1 (pw_of (ib X sc _ c h.2)) (by simp)
    | _ => exact ht_gen c h
  | _ => exact ht_gen c h
theorem hm_cmpT {op : CmpOp} {x y : E} {X : Cx} {sc : Scope} {p : Expr} (h : hmT tb X.N i sc (.cmp op x y) p = true) : ∃ ea eb pos, p = .Compare ea [op] [eb] pos ∧ hmE tb X.N i sc x ea = true ∧ hmE tb X.N i sc y eb = true ∧ behindInMarks op eb = false := by
  have two : ∀ {p : Expr}, (hmE tb X.N i sc (.cmp op x y) p && truthB p) = true → ∃ ea eb pos, p = .Compare ea [op] [eb] pos ∧ hmE tb X.N i sc x ea = true ∧ hmE tb X.N i sc y eb = true ∧ behindInMarks op eb = false := fun {p} h => by
    rw [Bool.and_eq_true] at h
    exact hm_cmp h.1
  cases p with
  | Compare ea ops cs pos =>
    match ops, cs, h with
    | [], _, h => exact two h
    | _ :: _ :: _, [], h => exact two h
    | _ :: _ :: _, _ :: _, h => exact two h
    | [_], [], h => exact two h
    | [_], _ :: _ :: _, h => exact two h
    | [op'], [eb], h =>
      have h : (decide (op = op') && hmE tb X.N i sc x ea && hmE tb X.N i sc y eb && !(behindInMarks op eb)) = true := h
      simp only [Bool.and_eq_true, decide_eq_true_eq, Bool.not_eq_true'] at h
      obtain ⟨⟨⟨rfl, h1⟩, h2⟩, h3⟩ := h
      exact ⟨_, _, _, rfl, h1, h2, h3⟩
  | _ => exact two h
theorem ht_cmp {op : CmpOp} {x y : E} : SHT G P tb a i k hc (.cmp op x y) := by
  intro X sc p c h
  obtain ⟨ea, eb, pos, rfl, h1, h2, h3⟩ := hm_cmpT h
  obtain ⟨r, hr, hok⟩ := cmpop_ok (G := G) (W := fun _ _ _ _ => False) c.K c.wd c.hu op
  exact PT.imp (pt_cmpR hr (okHE G P tb a i k hc x X sc ea c h1) (okHE G P tb a i k hc y X sc eb c h2) h3) fun σ H Q ⟨hσ, w, sl, e, ok, hs, h⟩ => by
    subst e
    exact h_two c hok hσ ok hs h
section
variable (G P tb a i k hc)
theorem okHT : ∀ e : E, SHT G P tb a i k hc e
  | .not a => ht_not (okHT a)
  | .and a b => ht_and (okHT a) (okHT b)
  | .or a b => ht_or (okHT a) (okHT b)
  | .lit _ => fun X sc p c h => ht_gen c h
  | .var _ => fun X sc p c h => ht_gen c h
  | .isi _ _ => fun X sc p c h => ht_gen c h
  | .lst _ => fun X sc p c h => ht_gen c h
  | .keep _ _ => fun X sc p c h => ht_gen c h
  | .call _ _ => fun X sc p c h => ht_gen c h
  | .bm _ _ _ => fun X sc p c h => ht_gen c h
  | .glb _ _ => fun X sc p c h => ht_gen c h
  | .bin _ _ _ => fun X sc p c h => ht_gen c h
  | .neg _ => fun X sc p c h => ht_gen c h
  | .cmp _ _ _ => ht_cmp
  | .chain _ _ _ _ _ => fun X sc p c h => ht_gen c h
  | .ife _ _ _ => fun X sc p c h => ht_gen c h
  | .tup _ => fun X sc p c h => ht_gen c h
  | .tupX _ => fun X sc p c h => ht_gen c h
  | .lstX _ => fun X sc p c h => ht_gen c h
  | .dic _ _ => fun X sc p c h => ht_gen c h
  | .idx _ _ => fun X sc p c h => ht_gen c h
  | .slc _ _ _ => fun X sc p c h => ht_gen c h
  | .minD _ => fun X sc p c h => ht_gen c h
  | .lrng _ => fun X sc p c h => ht_gen c h
  | .dis _ _ => fun X sc p c h => ht_gen c h
  | .back _ => fun X sc p c h => ht_gen c h
  | .nop => fun X sc p c h => ht_gen c h
  | .make _ _ => fun X sc p c h => ht_gen c h
  | .meth _ _ _ => fun X sc p c h => ht_gen c h
  | .fld _ _ => fun X sc p c h => ht_gen c h
  | .bi _ _ => fun X sc p c h => ht_gen c h
  | .comp _ _ _ _ _ => fun X sc p c h => ht_gen c h
termination_by structural e => e
end
/-! #### except suites: statements -/
def PostH (G : Glb) (a : Addr) (i : Nat) (w : Wd) (D : Ends) (out : RS) : Prop := match out with
  | .nx sl st' => ∀ w' σ, w'.st = st' → Ev w w' → w'.Ok G → SlotR G w' σ sl → σ[i]? = some (some (.ref a)) → D.nx σ w'.H
  | .rt t st' => ∀ v w' F, w'.st = st' → Ev w w' → w'.Ok G → w'.RO G v t F → Own w w' F → D.rt v w'.H
  | .exc _ _ _ => False
  | .bad => False
def tSh (G : Glb) (a : Addr) (i : Nat) (ev : Slots → Store → RS) : TS := fun D σ H => σ[i]? = some (some (.ref a)) ∧ ∃ w sl, w.H = H ∧ w.Ok G ∧ SlotR G w σ sl ∧ PostH G a i w D (ev sl w.st)
section
variable (G P tb a i k hc)
def SHS (s : S) : Prop := ∀ (X : Cx) (sc : Scope) (p : Stmt), CtxH G P tb X sc a k hc → hmS tb X.N i sc s p = true → PS X p (tSh G a i (hS (P.sub k) i hc s))
def SHSs (ss : Ss) : Prop := ∀ (X : Cx) (sc : Scope) (ps : List Stmt), CtxH G P tb X sc a k hc → hmSs tb X.N i sc ss ps = true → PSs X ps (tSh G a i (hSs (P.sub k) i hc ss))
end
theorem PostH.from {w w1 : Wd} {D : Ends} {out : RS} (e : Ev w w1) (h : PostH G a i w D out) : PostH G a i w1 D out := by
  cases out with
  | nx sl st => exact fun w' σ a b c d => h w' σ a (e.trans b) c d
  | rt t st => exact fun v w' F a b c d o => h v w' F a (e.trans b) c d (o.back e)
  | exc _ _ _ => exact h
  | bad => exact h
theorem PostH.bind {w w1 : Wd} {σ : L2.St} {sl : Slots} {ev : Slots → Store → R T} {f : T → Store → RS} {D : Ends} {Q1 : VK} (e1 : Ev w w1) (h : PostH G a i w D (RS.of sl (ev sl w1.st) f)) (ok : w1.Ok G) (hs : SlotR G w1 σ sl)
    (k : ∀ x st2 v w2 F, PostH G a i w D (f x st2) → w2.st = st2 → Ev w1 w2 → w2.Ok G → w2.RO G v x F → Own w1 w2 F → Q1 v w2.H) : tEv G (fun _ _ _ _ => False) ev σ w1.H Q1 := by
  refine ⟨w1, sl, rfl, ok, hs, ?_⟩
  cases q : ev sl w1.st with
  | ok x st2 =>
    rw [q] at h
    exact fun v w2 F a b c d e => k x st2 v w2 F h a b c d e
  | exc c st2 => rw [q] at h; exact h.elim
  | bad => rw [q] at h; exact h
theorem fzaH {w w1 : Wd} {D : Ends} {x : T} {v : V} {F : List Addr} {sl : Slots} {f : T → Store → RS} (h : PostH G a i w D (RS.of sl (fzaR x w1.st) f)) (ev : Ev w w1) (ok : w1.Ok G) (r : w1.RO G v x F) (o : Own w w1 F) :
    ∃ w2 y, w2.H = w1.H ∧ Ev w w2 ∧ w2.Ok G ∧ w2.R0 G v y ∧ PostH G a i w D (f y w2.st) := by
  rcases fzaR_or x w1.st with ⟨y, st2, q0, q⟩ | q
  · rw [q] at h
    obtain ⟨w2, e2, m2, c2⟩ := fza_ok ok r o q0
    subst e2
    exact ⟨w2, y, m2.H, m2.ev ev o.new, m2.ok, c2, h⟩
  · rw [q] at h
    exact h.elim
theorem sw_some {v : Expr} (h : isCompr v = false) (t : Option Expr) (l : Nat) (env : Env) : swapsWith v t l env = pure false := by
  cases v <;> first | rfl | cases h
theorem hs_asg {tg : Tg} {e : E} : SHS G P tb a i k hc (.asg tg e) := by
  intro X sc p c h
  cases p <;> try (cases tg <;> exact no h rfl)
  rename_i tgs v pos
  cases tg with
  | tup _ => exact no h rfl
  | name j =>
    match tgs, h with
    | [], h => exact no h rfl
    | t :: _ :: _, h => exact no h (by cases t <;> rfl)
    | [t], h =>
      cases t <;> try exact no h rfl
      rename_i y py
      have h : (decide (X.N[j]? = some y) && locB sc y true && hmE tb X.N i sc e v && !(isCompr v)) = true := h
      simp only [Bool.and_eq_true, decide_eq_true_eq, Bool.not_eq_true'] at h
      obtain ⟨⟨⟨h1, h2⟩, h3⟩, h4⟩ := h
      obtain ⟨l1, l2⟩ := c.loc y h2
      refine PS.imp (ps_set c.nd h1 l1 (okHE G P tb a i k hc e X sc v c h3) (sw_some h4 _ _ _) l2) fun D σ H ⟨hσ, w, sl, e, ok, hs, h⟩ => ?_
      subst e
      simp only [hS] at h
      split at h
      · exact h.elim
      · rename_i hne
        refine ⟨hσ, PostH.bind Ev.refl h ok hs fun x st1 v w1 F1 h e1 ev1 ok1 r1 o1 => ?_⟩
        subst e1
        obtain ⟨w2, y, hH, ev2, ok2, r2, h⟩ := fzaH h ev1 ok1 r1 o1
        rw [← hH]
        exact h w2 _ rfl ev2 ok2 ((hs.mono ev2 ok).set j r2) (by rw [List.getElem?_set_ne hne]; exact hσ)
theorem hs_ex {e : E} : SHS G P tb a i k hc (.ex e) := by
  intro X sc p c h
  cases p <;> try exact no h rfl
  rename_i v pos
  have h : (hmE tb X.N i sc e v && !(isCompr v)) = true := h
  simp only [Bool.and_eq_true, Bool.not_eq_true'] at h
  refine PS.imp (ps_expr (okHE G P tb a i k hc e X sc v c h.1) (sw_some h.2 _ _ _)) fun D σ H ⟨hσ, w, sl, e, ok, hs, h⟩ => ?_
  subst e
  refine ⟨hσ, PostH.bind Ev.refl h ok hs fun x st1 v w1 F1 h e1 ev1 ok1 r1 o1 => ?_⟩
  subst e1
  exact h w1 σ rfl ev1 ok1 (hs.mono ev1 ok) hσ
theorem hs_ret {e : E} : SHS G P tb a i k hc (.ret e) := by
  intro X sc p c h
  cases p <;> try exact no h rfl
  rename_i v pos
  cases v with
  | none => exact no h rfl
  | some v =>
    have h : hmE tb X.N i sc e v = true := h
    refine PS.imp (ps_ret (okHE G P tb a i k hc e X sc v c h)) fun D σ H ⟨hσ, w, sl, e, ok, hs, h⟩ => ?_
    subst e
    refine ⟨hσ, PostH.bind Ev.refl h ok hs fun x st1 v w1 F1 h e1 ev1 ok1 r1 o1 => ?_⟩
    subst e1
    exact h v w1 F1 rfl ev1 ok1 r1 o1
theorem hs_ret0 : SHS G P tb a i k hc .ret0 := by
  intro X sc p c h
  cases p <;> try exact no h rfl
  rename_i v pos
  cases v with
  | some _ => exact no h rfl
  | none =>
    refine PS.imp ps_retN fun D σ H ⟨_, w, sl, e, ok, hs, h⟩ => ?_
    subst e
    exact h .non w [] rfl Ev.refl ok (.of0 (.cl .non)) Own.nil
theorem hs_pass : SHS G P tb a i k hc .pass := by
  intro X sc p c h
  cases p <;> try exact no h rfl
  refine PS.imp ps_pass fun D σ H ⟨hσ, w, sl, e, ok, hs, h⟩ => ?_
  subst e
  exact h w σ rfl Ev.refl ok hs hσ
theorem hs_ite {e : E} {x y : Ss} (ia : SHSs G P tb a i k hc x) (ib : SHSs G P tb a i k hc y) : SHS G P tb a i k hc (.ite e x y) := by
  intro X sc p c h
  cases p <;> try exact no h rfl
  rename_i ec sa sb pos
  have h : (hmT tb X.N i sc e ec && hmSs tb X.N i sc x sa && hmSs tb X.N i sc y sb) = true := h
  simp only [Bool.and_eq_true] at h
  refine PS.imp (ps_if (okHT G P tb a i k hc e X sc ec c h.1.1) (ia X sc sa c h.1.2) (ib X sc sb c h.2)) fun D σ H ⟨hσ, w, sl, e, ok, hs, h⟩ => ?_
  subst e
  refine ⟨hσ, PostH.bind Ev.refl h ok hs fun x st1 v w1 F1 h e1 ev1 ok1 r1 o1 => ?_⟩
  subst e1
  split at h
  · obtain ⟨rfl, rfl⟩ := RO_bl r1
    refine ⟨true, rfl, ?_⟩
    dsimp only
    rw [if_pos rfl]
    exact ⟨hσ, w1, sl, rfl, ok1, hs.mono ev1 ok, PostH.from ev1 h⟩
  · obtain ⟨rfl, rfl⟩ := RO_bl r1
    refine ⟨false, rfl, ?_⟩
    dsimp only
    rw [if_neg (by decide)]
    exact ⟨hσ, w1, sl, rfl, ok1, hs.mono ev1 ok, PostH.from ev1 h⟩
  · exact h.elim
theorem hss_nil : SHSs G P tb a i k hc .nil := by
  intro X sc ps c h
  cases ps with
  | cons _ _ => exact no h rfl
  | nil =>
    refine PSs.imp pss_nil fun D σ H ⟨hσ, w, sl, e, ok, hs, h⟩ => ?_
    subst e
    exact h w σ rfl Ev.refl ok hs hσ
theorem PostH.thn {w w1 : Wd} {D : Ends} {N : L2.St → Hp → Prop} {bk ct : L2.St → Hp → Prop} {out : RS} {f : Slots → Store → RS} (e : Ev w w1) (h : PostH G a i w D (out.thn f))
    (k : ∀ sl w' σ, PostH G a i w D (f sl w'.st) → Ev w1 w' → w'.Ok G → SlotR G w' σ sl → σ[i]? = some (some (.ref a)) → N σ w'.H) : PostH G a i w1 ⟨N, D.rt, bk, ct⟩ out := by
  cases out with
  | nx sl st => exact fun w' σ a b c d hσ => by subst a; exact k sl w' σ h b c d hσ
  | rt t st => exact fun v w' F a b c d o => h v w' F a (e.trans b) c d (o.back e)
  | exc _ _ _ => exact h
  | bad => exact h
theorem PostH.any {w : Wd} {D D' : Ends} {out : RS} (h : PostH G a i w D out) (h1 : D.nx = D'.nx) (h2 : D.rt = D'.rt) : PostH G a i w D' out := by
  cases out with
  | nx sl st =>
    intro w' σ a b c d e
    rw [← h1]
    exact h w' σ a b c d e
  | rt t st =>
    intro v w' F a b c d o
    rw [← h2]
    exact h v w' F a b c d o
  | exc _ _ _ => exact h
  | bad => exact h
theorem hss_cons {s : S} {ss : Ss} (i1 : SHS G P tb a i k hc s) (i2 : SHSs G P tb a i k hc ss) : SHSs G P tb a i k hc (.cons s ss) := by
  intro X sc ps c h
  cases ps with
  | nil => exact no h rfl
  | cons p ps =>
    have h : (hmS tb X.N i sc s p && hmSs tb X.N i sc ss ps) = true := h
    simp only [Bool.and_eq_true] at h
    refine PSs.imp (pss_cons (i1 X sc p c h.1) (i2 X sc ps c h.2)) fun D σ H ⟨hσ, w, sl, e, ok, hs, h⟩ => ?_
    subst e
    refine ⟨hσ, w, sl, rfl, ok, hs, ?_⟩
    exact PostH.any (PostH.thn (N := fun σ' H' => tSh G a i (hSs (P.sub k) i hc ss) D σ' H') (bk := D.bk) (ct := D.ct) Ev.refl h fun sl4 w4 σ4 h ev4 ok4 hs4 hσ4 => ⟨hσ4, w4, sl4, rfl, ok4, hs4, PostH.from ev4 h⟩) rfl rfl
section
variable (G P tb a i k hc)
mutual
theorem okHS : ∀ s : S, SHS G P tb a i k hc s
  | .asg _ _ => hs_asg
  | .ex _ => hs_ex
  | .ret _ => hs_ret
  | .ret0 => hs_ret0
  | .pass => hs_pass
  | .ite _ x y => hs_ite (okHSs x) (okHSs y)
  | .par _ _ _ => fun X sc p c h => by cases p <;> exact no h rfl
  | .sub _ _ _ => fun X sc p c h => by cases p <;> exact no h rfl
  | .fld _ _ _ => fun X sc p c h => by cases p <;> exact no h rfl
  | .subn _ _ _ _ => fun X sc p c h => by cases p <;> exact no h rfl
  | .for_ _ _ _ => fun X sc p c h => by cases p <;> exact no h rfl
  | .whl _ _ _ => fun X sc p c h => by cases p <;> exact no h rfl
  | .rai _ => fun X sc p c h => by cases p <;> exact no h rfl
  | .try_ _ _ => fun X sc p c h => by cases p <;> exact no h rfl
termination_by structural s => s
theorem okHSs : ∀ ss : Ss, SHSs G P tb a i k hc ss
  | .nil => hss_nil
  | .cons s ss => hss_cons (okHS s) (okHSs ss)
termination_by structural ss => ss
end
end
/-! #### a def called with the exception -/
/-- its run, from the call on -/
theorem hot_code {CX : CXT} {Pr : Program} {wd : World} {K : PySem.W.Frag} {mg : Str → Option Value} {base : Heap} {fa : Addr} {fd : FuncData} {nm qual : Str} {params : Arguments} {body : List Stmt} {scope : Scope} {N : List Str} {q : Str}
    (D : FunD K nm qual params body scope [] [] fa fd) (S : FnScope N [q] scope) {Ar : Around} {out : List Env} {sh : Shared} {Hh : Hp} {u : Value} {v : V} {Q : VK} {Ex : XK} (pi : Addr × Obj) (room : L2H.RoomH 1 Ar) (pk : L2H.PinOk out Hh sh pi)
    (e0 : Env0 Pr wd K mg base Ar out sh Hh) (bn : Binds K fd [q] []) (rv : RelV v u) {t : TS} (walk : ∀ cdv, PSs (L2H.cxH CX Pr wd K mg base N qual scope fa cdv Ar out sh Hh Ex pi) body t) (wish : t { nx := fun _ H' => Q .non H', rt := Q } (L2.start N [v]) Hh) :
    codeAny (model Pr wd) Ar (.call (.ref fa) ⟨[u], []⟩) (CR CX out Pr wd Hh sh Q Ex) sh := by
  have KX : K.In sh.heap := e0.mod.kin.keeps fun b o z => (e0.bs b o z).1
  have bnd := bn sh [u] KX rfl
  rw [List.append_nil] at bnd
  obtain ⟨oc, od, dV, kV, doc, pm, an, cdv, ct, osl, rfl, look, inK, _, _⟩ := D.ex
  have kinds : ∀ y ∈ [q].zip [u], scope.names.lookup y.1 = some .local ∨ (scope.names.lookup y.1 = some .cell ∧ ((cellsFrom (sh.heap.objs.size + 1) scope.names []).lookup y.1).isSome = true) := fun y hy => by
    have : y.1 = q := by
      have : y = (q, u) := by simpa using hy
      rw [this]
    rw [this]
    rcases S.par q (List.mem_singleton.mpr rfl) with z | z
    · exact .inl z
    · exact .inr ⟨z, PySem.W.cellsFrom_some _ _ _ (.inl z)⟩
  refine codeAny_call_function (L2H.RoomH.depth room) (KX _ _ look) rfl S.co S.gen rfl (PySem.W.codeRec_of KX inK) (bnd _ _ _ _ ?_)
  refine wpAny_newFunctionEnv_cells S.kind kinds fun en hen s1 x => ?_
  subst hen
  refine ⟨(e0.mod.nolimit.keeps fun b o z => (e0.bs b o z).1).keeps x.toInCall.keep, codeAny_func ?_⟩
  have I := L2H.inv_startH (CX := CX) (qual := qual) (f := fa) (cd := cdv) (E := Ex) (vs := [v]) (us := [u]) S pk e0 rfl (.cons rv .nil) x
  refine wpAny_mono ((walk cdv).run [] s1 _ Hh _ I wish) (fun fl s' z => ?_) fun _ _ z => z
  cases fl with
  | ret u' =>
    obtain ⟨v', σ', H', J, r', q'⟩ := z
    exact ⟨v', H', J.os, J.bare, J.base, J.hok, r', q'⟩
  | next =>
    obtain ⟨σ', H', J, q'⟩ := z
    exact ⟨V.non, H', J.os, J.bare, J.base, J.hok, (rfl : RelV V.non Value.none), q'⟩
  | brk => exact z.choose_spec.choose_spec.2.elim
  | cont => exact z.choose_spec.choose_spec.2.elim
theorem slots_none {w : Wd} {v : V} {N : List Str} {n : Nat} (hN : N.length = n) (h1 : 1 ≤ n) : SlotR G w (L2.start N [v]) (List.replicate n none) := by
  refine ⟨by simp [L2.start]; omega, fun j t q => ?_⟩
  have := List.mem_of_getElem? q
  rw [List.mem_replicate] at this
  cases this.2
/-- a def that matches is run as the evaluator says -/
theorem hot_run {X : Cx} {oe : Obj} {f : Nat} {x : Str} (hK : X.K = G.K) (hmg : X.mg = G.mg) (hwd : X.w = G.w) (hh : X.A.handled = some (.ref a)) (gl : GlbOk G P tb) (hot : HotOk G P tb) (hx : tb.hfn.lookup f = some x) (hk : ∃ y, tb.exc[k]? = some (some y)) (room : L2H.RoomH 1 X.A) (hp : (a, oe) ∈ X.pn)
    (hz : L2N.Zn (.ref (G.cls k)) none oe) (hf : ∃ vs, oe.data = .fields vs) : HotRun G X a (G.fa f) (hotF P (P.sub k) f) := by
  intro pins s σ Q w I ok h
  obtain ⟨F, hF, np, ⟨nm, qual, params, body, scope, N, q, fD, S, hN, hm, bn⟩, hg, kp⟩ := hot.fn f x hx
  have P1 := I.pin (a, oe) (List.mem_append_left _ hp)
  have pk : L2H.PinOk X.stack w.H s (a, oe) := ⟨P1.1, P1.2.1, fun hm => (List.mem_cons.mp (I.stkSub a hm)).elim P1.2.2.1 P1.2.2.2.1, P1.2.2.2.2⟩
  have h : PostF G w (noX (fnEnd w.st.length (hSs (P.sub k) 0 (fun _ _ => .bad) F.body (List.replicate F.ns none) w.st))) Q (fun _ _ _ => False) := by
    simp only [hotF, hF, np, if_true] at h
    exact h
  have hN1 : 1 ≤ F.ns := by
    have := congrArg List.length S.pre
    rw [List.length_take] at this
    simp at this
    omega
  refine wpAny_call (codeAny_mono (hot_code (CX := CX0) (Q := Q) (Ex := E0) fD S (a, oe) room pk (by have := I.env0; rw [hK] at this; exact this) bn (show RelV (.ref a) (.ref a) from rfl)
    (t := tSh G a 0 (hSs (P.sub k) 0 (fun _ _ => .bad) F.body)) (fun cdv => ?_) ⟨by simp [L2.start], w, List.replicate F.ns none, rfl, ok, slots_none hN hN1, ?_⟩) fun r s' hq => ?_)
  · refine okHSs G P tb a 0 k _ F.body _ scope _ ⟨rfl, hmg, hwd, by have := (L2H.RoomH.deeper (k := 0) room (envOfC qual scope s.heap.objs.size (G.fa f) cdv)).un; show (X.A.deeper (envOfC qual scope s.heap.objs.size (G.fa f) cdv)).units + 68 < cLine; omega, hh, S.nd, rfl, ⟨oe, List.mem_singleton.mpr rfl, hz, hf⟩, fun y hy => ⟨?_, .inl rfl⟩, gl, hot, hk, fun f' x' hx' pins s σ Q w I ok h => h.elim⟩ hm
    unfold locB at hy
    split at hy
    · exact .inl (by assumption)
    · exact .inr (by assumption)
    · cases hy
  · have hn : w.st.length = w.r.length := ok.len.symm
    rw [hn] at h
    cases z : hSs (P.sub k) 0 (fun _ _ => .bad) F.body (List.replicate F.ns none) w.st with
    | nx sl st =>
      rw [z] at h
      intro w' σ e b c d hσ
      subst e
      exact h .non (w'.cut w.r.length) [] rfl b.cut_r (b.cut (Nat.le_refl _)) (c.cut _) (.of0 (.cl .non)) Own.nil
    | rt t st =>
      rw [z] at h
      intro v w' F e b c d o
      subst e
      simp only [fnEnd] at h
      rcases leave_or w.r.length t w'.st with ⟨t', st', q⟩ | q
      · obtain ⟨e, F', r, o'⟩ := leave_ok b c d o q
        rw [q] at h
        have h : PostF G w (.ok t' st') Q _ := h
        exact h v (w'.cut w.r.length) F' e b.cut_r (b.cut (Nat.le_refl _)) (c.cut _) r o'
      · rw [q] at h
        exact h.elim
    | exc c sl st =>
      rw [z] at h
      exact h.elim
    | bad => rw [z] at h; exact h.elim
  · cases r with
    | error e => exact hq.elim
    | ok fl =>
      cases fl with
      | ret u => exact I.after hq
      | next => exact hq.elim
      | brk => exact hq.elim
      | cont => exact hq.elim
end PC
namespace PC
open PySem PySem.Spec PyProof.Rows L2
variable {G : Glb} {P : Prog} {tb : Tab} {n : Nat}
/-! ### loops, blocks -/
theorem PostS.unlock {W : WX} {w w1 : Wd} {ks : List Nat} {D : Ends} (e : Ev w w1) (lk : ∀ k ∈ ks, ∀ a, w1.r[k]? = some a → Live w a ∨ w.H a = none) {out : RS} (h : PostS G W w D (out.unlock ks)) :
    PostS G W w1 D out := by
  cases out with
  | nx sl st =>
    intro w' σ a b c d
    subst a
    obtain ⟨ok, ev⟩ := unlock_ev e b c lk
    exact h ⟨w'.H, w'.r, PC.unlock ks w'.st, w'.S⟩ σ rfl ev ok ⟨d.len, d.get⟩
  | rt t st =>
    intro v w' F a b c d o
    subst a
    obtain ⟨ok, ev⟩ := unlock_ev e b c lk
    have o' := o.back e
    exact h v ⟨w'.H, w'.r, PC.unlock ks w'.st, w'.S⟩ F rfl ev ok d ⟨o'.nd, o'.new, o'.ns, o'.nr⟩
  | exc c sl st =>
    intro w' σ a b c d
    subst a
    obtain ⟨ok, ev⟩ := unlock_ev e b c lk
    exact h ⟨w'.H, w'.r, PC.unlock ks w'.st, w'.S⟩ σ rfl ev ok ⟨d.len, d.get⟩
  | bad => exact h
theorem PostS.thn {W : WX} {w w1 : Wd} {D : Ends} {N : L2.St → Hp → Prop} {bk ct : L2.St → Hp → Prop} {out : RS} {f : Slots → Store → RS} (e : Ev w w1) (h : PostS G W w D (out.thn f))
    (k : ∀ sl w' σ, PostS G W w D (f sl w'.st) → Ev w1 w' → w'.Ok G → SlotR G w' σ sl → N σ w'.H) : PostS G W w1 ⟨N, D.rt, bk, ct⟩ out := by
  cases out with
  | nx sl st => exact fun w' σ a b c d => by subst a; exact k sl w' σ h b c d
  | rt t st => exact fun v w' F a b c d o => h v w' F a (e.trans b) c d (o.back e)
  | exc c sl st => exact fun w' σ a b c d => h w' σ a (e.trans b) c d
  | bad => exact h
theorem PostS.any {W : WX} {w : Wd} {D D' : Ends} {out : RS} (h : PostS G W w D out) (h1 : D.nx = D'.nx) (h2 : D.rt = D'.rt) : PostS G W w D' out := by
  cases out with
  | nx sl st =>
    intro w' σ a b c d
    rw [← h1]
    exact h w' σ a b c d
  | rt t st =>
    intro v w' F a b c d o
    rw [← h2]
    exact h v w' F a b c d o
  | exc c sl st => exact h
  | bad => exact h
theorem s_for {tg : Tg} {it : It} {b : Ss} (ib : SSs G P tb n b) : SS G P tb n (.for_ tg it b) := by
  intro X sc W p c h
  cases p <;> try exact no h rfl
  rename_i etg ei sb orelse pos
  cases orelse with
  | cons _ _ => exact no h rfl
  | nil =>
    have h : (mTg X.N sc tg etg && mI tb X.N sc it ei etg && mSs tb X.N sc b sb) = true := h
    simp only [Bool.and_eq_true] at h
    obtain ⟨⟨h1, h2⟩, h3⟩ := h
    obtain ⟨pi, pl⟩ := okI G P tb n it X sc W ei etg c.toCtx h2
    refine PS.imp (ps_for c.owns c.calm pi (pg_ok (G := G) c.calm c.nd c.loc tg h1) (ib X sc W sb c h3) (fun v => fold_plain pl _ v)) fun D σ H ⟨w, sl, e, ok, hs, h⟩ => ?_
    subst e
    refine ⟨w, sl, rfl, ok, hs, ?_⟩
    simp only [evS] at h
    cases q : evIt P (callN P n) it sl w.st with
    | bad => rw [q] at h; exact h
    | exc k st => rw [q] at h; exact fun w2 a b c => h w2 σ a b c (hs.mono b ok)
    | ok p st1 =>
      obtain ⟨ts, ks⟩ := p
      rw [q] at h
      simp only [RS.of] at h
      obtain ⟨f, hf⟩ : ∃ f : T → Slots → Store → RS, f = forF (fun sl st => evSs P (callN P n) b sl st) tg := ⟨_, rfl⟩
      have h : PostS G W w D ((forGo f ts sl st1).unlock ks) := by rw [hf]; exact h
      intro J w1 e1 ev1 ok1 wk lks
      subst e1
      have h := PostS.unlock ev1 lks h
      refine ⟨fun i m σi H => m = ts.length - i ∧ i ≤ ts.length ∧ ∃ (wi : Wd) (sli : Slots), wi.H = H ∧ Ev w1 wi ∧ wi.Ok G ∧ SlotR G wi σi sli ∧ PostS G W w1 D (forGo f (ts.drop i) sli wi.st), ⟨ts.length, by simp, Nat.zero_le _, w1, sl, rfl, Ev.refl, ok1, hs.mono ev1 ok, h⟩, ?_⟩
      rintro i m σi H ⟨rfl, hi, wi, sli, rfl, evi, oki, hsi, h⟩
      by_cases hlt : i < ts.length
      · refine .inr ?_
        have hget : ts[i]? = some ts[i] := List.getElem?_eq_getElem hlt
        obtain ⟨hgo, hy⟩ := wk.go wi i ts[i] evi oki hget
        refine ⟨hgo, fun σ' H' => (ts.length - (i + 1) = ts.length - (i + 1) ∧ i + 1 ≤ ts.length ∧ ∃ (wi : Wd) (sli : Slots), wi.H = H' ∧ Ev w1 wi ∧ wi.Ok G ∧ SlotR G wi σ' sli ∧ PostS G W w1 D (forGo f (ts.drop (i + 1)) sli wi.st)), fun σ' H' nx => ⟨ts.length - (i + 1), by omega, nx⟩, fun v H' y => ?_⟩
        obtain ⟨w3, rfl, e3, ev3, ok3, r3⟩ := hy v H' y
        rw [List.drop_eq_getElem_cons hlt] at h
        simp only [forGo] at h
        rw [← e3] at h
        rw [show f ts[i] sli w3.st = match bindT w3.st tg ts[i] sli with
          | some sl => evSs P (callN P n) b sl w3.st
          | none => .bad from by rw [hf]; rfl] at h
        cases hb : bindT w3.st tg ts[i] sli with
        | none => rw [hb] at h; exact h.elim
        | some sl' =>
          rw [hb] at h
          have ev13 := evi.trans ev3
          refine ⟨w3, ts[i], sli, sl', rfl, ok3, hsi.mono ev3 oki, r3, hb, fun σ2 hs2 _ => ⟨w3, sl', rfl, ok3, hs2, ?_⟩⟩
          refine PostS.thn ev13 h fun sl4 w4 σ4 h ev4 ok4 hs4 => ?_
          exact ⟨rfl, hlt, w4, sl4, rfl, ev13.trans ev4, ok4, hs4, h⟩
      · have e : i = ts.length := by omega
        subst e
        refine .inl ⟨wk.stop wi evi oki, ?_⟩
        rw [List.drop_length] at h
        exact h wi σi rfl evi oki hsi
theorem s_whl {k : Nat} {e : E} {b : Ss} (ib : SSs G P tb n b) : SS G P tb n (.whl k e b) := by
  intro X sc W p c h
  cases p <;> try exact no h rfl
  rename_i ec sb orelse pos
  cases orelse with
  | cons _ _ => exact no h rfl
  | nil =>
    have h : (mT tb X.N sc e ec && mSs tb X.N sc b sb) = true := h
    simp only [Bool.and_eq_true] at h
    refine PS.imp (ps_while c.owns ((okE G P tb n e).2 X sc W ec c.toCtx h.1) (ib X sc W sb c h.2)) fun D σ H ⟨w, sl, e1, ok, hs, h⟩ => ?_
    subst e1
    simp only [evS] at h
    refine ⟨fun m σi H => ∃ (wi : Wd) (sli : Slots), wi.H = H ∧ Ev w wi ∧ wi.Ok G ∧ SlotR G wi σi sli ∧ PostS G W w D (whlGo (fun sl st => evE P (callN P n) e sl st) (fun sl st => evSs P (callN P n) b sl st) m sli wi.st), ⟨k, w, sl, rfl, Ev.refl, ok, hs, h⟩, ?_⟩
    rintro m σi H ⟨wi, sli, rfl, evi, oki, hsi, h⟩
    cases m with
    | zero => exact h.elim
    | succ m =>
      simp only [whlGo] at h
      refine PostS.bindT (ev := fun sl st => evE P (callN P n) e sl st) evi h oki hsi fun x st1 v w1 F1 h e1 ev1 ok1 r1 o1 => ?_
      subst e1
      split at h
      · obtain ⟨rfl, rfl⟩ := RO_bl r1
        refine ⟨true, rfl, ?_⟩
        rw [if_pos rfl]
        have ev2 := evi.trans ev1
        refine ⟨fun σ' H' => ∃ (wi : Wd) (sli : Slots), wi.H = H' ∧ Ev w wi ∧ wi.Ok G ∧ SlotR G wi σ' sli ∧ PostS G W w D (whlGo (fun sl st => evE P (callN P n) e sl st) (fun sl st => evSs P (callN P n) b sl st) m sli wi.st), fun σ' H' q => ⟨m, Nat.lt_succ_self _, q⟩, w1, sli, rfl, ok1, hsi.mono ev1 oki, ?_⟩
        exact PostS.thn ev2 h fun sl4 w4 σ4 h ev4 ok4 hs4 => ⟨w4, sl4, rfl, ev2.trans ev4, ok4, hs4, h⟩
      · obtain ⟨rfl, rfl⟩ := RO_bl r1
        refine ⟨false, rfl, ?_⟩
        rw [if_neg (by decide)]
        exact h w1 σi rfl (evi.trans ev1) ok1 (hsi.mono ev1 oki)
      · exact h.elim
theorem ss_nil : SSs G P tb n .nil := by
  intro X sc W ps c h
  cases ps with
  | cons _ _ => exact no h rfl
  | nil =>
    refine PSs.imp pss_nil fun D σ H ⟨w, sl, e, ok, hs, h⟩ => ?_
    subst e
    exact h w σ rfl Ev.refl ok hs
theorem ss_cons {s : S} {ss : Ss} (i1 : SS G P tb n s) (i2 : SSs G P tb n ss) : SSs G P tb n (.cons s ss) := by
  intro X sc W ps c h
  cases ps with
  | nil => exact no h rfl
  | cons p ps =>
    have h : (mS tb X.N sc s p && mSs tb X.N sc ss ps) = true := h
    simp only [Bool.and_eq_true] at h
    refine PSs.imp (pss_cons (i1 X sc W p c h.1) (i2 X sc W ps c h.2)) fun D σ H ⟨w, sl, e, ok, hs, h⟩ => ?_
    subst e
    simp only [evSs] at h
    refine ⟨w, sl, rfl, ok, hs, ?_⟩
    exact PostS.any (PostS.thn (N := fun σ' H' => tSv G W (evSs P (callN P n) ss) D σ' H') (bk := D.bk) (ct := D.ct) Ev.refl h fun sl4 w4 σ4 h ev4 ok4 hs4 => ⟨w4, sl4, rfl, ok4, hs4, PostS.from ev4 h⟩) rfl rfl
theorem inv_try {b : Ss} {hs : Hs} {N : List Str} {sc : Scope} {p : Stmt} (h : mS tb N sc (.try_ b hs) p = true) :
    (∃ (c0 : Ty) (h0 : Ss) (sb : List Stmt) (x : Str) (np : Pos) (b0 : Stmt) (su : List Stmt) (pos' pos : Pos), hs = .cons c0 none h0 .nil ∧ p = .Try sb [.ExceptHandler (some (.Name x np)) none (b0 :: su) pos'] [] [] pos ∧ mSs tb N sc b sb = true) ∨
    ∃ (cc i : Nat) (h0 : Ss) (sb : List Stmt) (x : Str) (np : Pos) (y : Str) (b0 : Stmt) (su : List Stmt) (pos' pos : Pos), hs = .cons (.own cc) (some i) h0 .nil ∧ p = .Try sb [.ExceptHandler (some (.Name x np)) (some y) (b0 :: su) pos'] [] [] pos ∧
      tb.tr = true ∧ mSs tb N sc b sb = true ∧ glB sc x = true ∧ tb.exc[cc]? = some (some x) ∧ N[i]? = some y ∧ sc.names.lookup y = some .local ∧ hmSs tb N i sc h0 (b0 :: su) = true := by
  unfold mS at h
  split at h
  all_goals first
    | (rename_i q; cases q; done)
    | (rename_i q _; cases q; done)
    | (cases h; done)
    | skip
  · rename_i q
    injection q with q1 q2
    subst q1 q2
    simp only [Bool.and_eq_true, decide_eq_true_eq] at h
    obtain ⟨⟨⟨⟨h1, h2⟩, h3, h4⟩, h5, h6⟩, h7⟩ := h
    exact .inr ⟨_, _, _, _, _, _, _, _, _, _, _, rfl, rfl, h1, h2, h3, h4, h5, h6, h7⟩
  · rename_i q
    injection q with q1 q2
    subst q1 q2
    exact .inl ⟨_, _, _, _, _, _, _, _, _, rfl, rfl, h⟩
theorem SlotR.none {w : Wd} {σ : L2.St} {sl : Slots} {i : Nat} (h : SlotR G w σ sl) (v : Option V) : SlotR G w (σ.set i v) (sl.set i none) := by
  refine ⟨by rw [List.length_set, List.length_set]; exact h.len, fun j t q => ?_⟩
  by_cases e : i = j
  · subst e
    rw [List.getElem?_set] at q
    split at q
    · split at q <;> cases q
    · rename_i ne; exact absurd rfl ne
  · rw [List.getElem?_set_ne e] at q
    obtain ⟨u, h1, h2⟩ := h.get j t q
    exact ⟨u, by rw [List.getElem?_set_ne e]; exact h1, h2⟩
theorem s_try {b : Ss} {hs : Hs} (ib : SSs G P tb n b) : SS G P tb n (.try_ b hs) := by
  intro X sc W p c h
  rcases inv_try h with ⟨c0, h0, sb, x, np, b0, su, pos', pos, rfl, rfl, hm⟩ | ⟨cc, i, h0, sb, x, np, y, b0, su, pos', pos, rfl, rfl, htr, hm, hg, hx, hy, hyl, hh⟩
  · have cn : CtxS G P tb n X.nox sc (fun _ _ _ _ => False) := ⟨⟨c.K, c.mg, c.wd, c.nd, c.sc, c.calm, c.room, fun u s' x => by obtain ⟨_, _, _, _, _, _, _, _, _, _, _, _, _, _, _, _, w⟩ := x; exact w.elim, c.fns, c.fns1, c.gl⟩, c.loc, PassesOwn.never, c.stk, c.frm, c.hot⟩
    refine PS.imp (L2.ps_try_thru0 (ib X.nox sc (fun _ _ _ _ => False) sb cn hm)) fun D σ H ⟨w, sl, e, ok, hs, h⟩ => ?_
    subst e
    refine ⟨w, sl, rfl, ok, hs, ?_⟩
    have h : PostS G W w D (tryR P (.cons c0 none h0 .nil) (evSs P (callN P n) b sl w.st)) := by simpa only [evS] using h
    cases q : evSs P (callN P n) b sl w.st with
    | nx sl1 st1 => rw [q] at h; exact h
    | rt t st1 => rw [q] at h; exact h
    | bad => rw [q] at h; exact h
    | exc k sl1 st1 => rw [q] at h; exact h.elim
  have hot := c.hot htr
  obtain ⟨ga, gb, _⟩ := glB_ok hg c.sc
  have cN : Names X x (.ref (G.cls cc)) := ⟨ga, gb, .inl (by rw [c.mg]; exact (c.gl.exc cc x hx).1)⟩
  have hyk : X.env.kindOf y = some .local := by
    have e : X.env.scope.names.lookup y = some .local := by rw [c.sc]; exact hyl
    exact e
  refine PS.imp (L2N.ps_try_as (x := x) (n := y) (c := .ref (G.cls cc)) (i := i) (Wout := W) (tb := fun W' => tSv G W' (evSs P (callN P n) b))
    (ts := fun a cls d D σ H => d = none ∧ ∃ (k : Nat) (σ0 : L2.St), cls = .ref (G.cls k) ∧ (∃ xk, tb.exc[k]? = some (some xk)) ∧ σ = σ0.set i (some (.ref a)) ∧ ∃ w sl, w.H = H ∧ w.Ok G ∧ SlotR G w σ sl ∧ PostH G a i w D (hSs (P.sub k) i (hotF P (P.sub k)) h0 sl w.st))
    c.stk c.frm c.nd hy hyk cN c.tk (fun W' pn xe tk ps => ib (X.tr pn xe) sc W' sb ⟨⟨c.K, c.mg, c.wd, c.nd, c.sc, c.calm, c.room, tk, c.fns, c.fns1, c.gl⟩, c.loc, ps, c.stk, c.frm, c.hot⟩ hm)
    (fun a oe cls d pn hz hf => ⟨fun pins s σ H D I ⟨hd, k, σ0, hcls, hk, hσ, w, sl, e, ok, hs, q⟩ => ?_⟩)) fun D σ H ⟨w, sl, e, ok, hs, h⟩ => ?_
  · subst hd hcls hσ
    have r1 : L2H.RoomH 1 X.A := L2H.roomH_of (c.room.rm.mono (by omega))
    have room : L2H.RoomH 1 (X.suite a ((a, oe) :: pn)).A := ⟨r1.dp, r1.un⟩
    have li : (σ0.set i (some (V.ref a)))[i]? = some (some (.ref a)) := by
      have hl := I.len
      rw [List.length_set] at hl
      have hi : i < X.N.length := (List.getElem?_eq_some_iff.mp hy).1
      have hi2 : i < σ0.length := by
        have : σ0.length = X.N.length := hl
        omega
      exact List.getElem?_set_self hi2
    exact (okHSs G P tb a i k _ h0 (X.suite a ((a, oe) :: pn)) sc (b0 :: su) ⟨c.K, c.mg, c.wd, by have := r1.un; show X.A.units + 68 < cLine; omega, rfl, c.nd, c.sc, ⟨oe, List.mem_cons_self, hz, hf⟩, c.loc, c.gl, hot, hk, fun f x hx => hot_run c.K c.mg c.wd rfl c.gl hot hx hk room List.mem_cons_self hz hf⟩ hh).run pins s _ H D I ⟨li, w, sl, e, ok, hs, q⟩
  · subst e
    refine ⟨w, sl, rfl, ok, hs, ?_⟩
    have h : PostS G W w D (tryR P (.cons (.own cc) (some i) h0 .nil) (evSs P (callN P n) b sl w.st)) := by simpa only [evS] using h
    cases q : evSs P (callN P n) b sl w.st with
    | nx sl1 st1 => rw [q] at h; exact h
    | rt t st1 => rw [q] at h; exact h
    | bad => rw [q] at h; exact h
    | exc k sl1 st1 =>
      rw [q] at h
      simp only [tryR] at h
      split at h
      · rename_i hkn
        obtain ⟨xk, hk⟩ := hot.ks k hkn
        intro w1 σ1 e1 ev1 ok1 hs1
        refine ⟨P.sub k (.own cc), by rw [c.K]; exact (hot.exm k cc xk x hk hx).1, fun hb a na => ?_, fun hb => ?_⟩
        · rw [if_pos hb] at h
          refine ⟨rfl, k, σ1, rfl, ⟨xk, hk⟩, rfl, w1, sl1.set i none, rfl, ok1, hs1.none _, ?_⟩
          subst e1
          cases z : hSs (P.sub k) i (hotF P (P.sub k)) h0 (sl1.set i none) w1.st with
          | nx sl2 st2 =>
            rw [z] at h
            exact fun w2 σ2 e2 ev2 ok2 hs2 _ => h w2 (σ2.set i none) e2 (ev1.trans ev2) ok2 (hs2.none _)
          | rt t st2 =>
            rw [z] at h
            exact fun v w2 F e2 ev2 ok2 r2 o2 => h v w2 F e2 (ev1.trans ev2) ok2 r2 (o2.back ev1)
          | exc c2 sl2 st2 => rw [z] at h; exact h.elim
          | bad => rw [z] at h; exact h.elim
        · rw [if_neg (by rw [hb]; decide)] at h
          exact h w1 σ1 e1 ev1 ok1 hs1
      · exact h.elim
section
variable (G P tb n)
mutual
theorem okS : ∀ s : S, SS G P tb n s
  | .asg _ _ => s_asg
  | .par _ _ _ => s_par
  | .sub _ _ _ => s_sub
  | .fld _ _ _ => s_fld
  | .subn _ _ _ _ => s_subn
  | .ex _ => s_ex
  | .ret _ => s_ret
  | .ret0 => s_ret0
  | .pass => s_pass
  | .ite _ a b => s_ite (okSs a) (okSs b)
  | .for_ _ _ b => s_for (okSs b)
  | .whl _ _ b => s_whl (okSs b)
  | .rai _ => s_rai
  | .try_ b _ => s_try (okSs b)
termination_by structural s => s
theorem okSs : ∀ ss : Ss, SSs G P tb n ss
  | .nil => ss_nil
  | .cons s ss => ss_cons (okS s) (okSs ss)
termination_by structural ss => ss
end
end
end PC
namespace PC
open PySem PySem.Spec PyProof.Rows L2
variable {G : Glb} {P : Prog} {tb : Tab}
/-! ### all defs -/
/-- a def of the program's, as the small language has it -/
structure DefOk (G : Glb) (P : Prog) (tb : Tab) (i : Nat) (F : Fn) : Prop where
  ex : ∃ (x qual : Str) (params : Arguments) (body : List Stmt) (scope : Scope) (N : List Str), FunD G.K x qual params body scope [] [] (G.fa i) (G.fd i) ∧ FnScope N (G.ps i) scope ∧ N.length = F.ns ∧ mSs tb N scope F.body body = true
theorem start_slots {w : Wd} {N : List Str} {vs : List V} {xs : List T} {ns : Nat} (h : w.R0s G vs xs) (hN : N.length = ns) : SlotR G w (L2.start N vs) (xs.map some ++ List.replicate (ns - xs.length) none) := by
  have hl := h.length
  refine ⟨by simp [L2.start, hN, hl], fun i t q => ?_⟩
  by_cases hi : i < xs.length
  · rw [List.getElem?_append_left (by simpa using hi)] at q
    simp only [List.getElem?_map, Option.map_eq_some_iff] at q
    obtain ⟨t', q1, q2⟩ := q
    cases q2
    obtain ⟨v, hv, r⟩ := h.get q1
    refine ⟨v, ?_, r⟩
    unfold L2.start
    rw [List.getElem?_append_left (by simpa [hl] using hi)]
    simp [hv]
  · rw [List.getElem?_append_right (by simpa using Nat.le_of_not_lt hi)] at q
    have := List.mem_of_getElem? q
    rw [List.mem_replicate] at this
    cases this.2
theorem fn_end {W : WX} {w : Wd} {out : RS} {Q : VK} {E : XK} (ok : w.Ok G) (hW : W = fun cls d _ H => E cls d H) (h : PostF G w (fnEnd w.st.length out) Q E) : PostS G W w { nx := fun _ H' => Q .non H', rt := Q } out := by
  subst hW
  have hn : w.st.length = w.r.length := ok.len.symm
  rw [hn] at h
  cases out with
  | nx sl st =>
    intro w' σ a b c d
    subst a
    exact h .non (w'.cut w.r.length) [] rfl b.cut_r (b.cut (Nat.le_refl _)) (c.cut _) (.of0 (.cl .non)) Own.nil
  | rt t st =>
    intro v w' F a b c d o
    subst a
    simp only [fnEnd] at h
    rcases leave_or w.r.length t w'.st with ⟨t', st', q⟩ | q
    · obtain ⟨e, F', r, o'⟩ := leave_ok b c d o q
      rw [q] at h
      exact h v (w'.cut w.r.length) F' e b.cut_r (b.cut (Nat.le_refl _)) (c.cut _) r o'
    · rw [q] at h
      exact h.elim
  | exc k sl st =>
    intro w' σ a b c d
    subst a
    exact h (w'.cut w.r.length) rfl b.cut_r (b.cut (Nat.le_refl _)) (c.cut _)
  | bad => exact h.elim
theorem okFn {Pr : Program} {wd : World} (hw : wd = G.w) {base : Heap} (gl : GlbOk G P tb) (ht : tb.tr = true → HotOk G P tb) (df : ∀ i F, P.fn i = some F → DefOk G P tb i F) :
    ∀ (n i : Nat) (F : Fn), P.fn i = some F → FnG Pr wd G.K G.mg base (L2N.CX Pr wd) (n + 1) (G.fa i) (G.fd i) (G.ps i) (spF G P n i)
  | 0, i, F, hF => ⟨fun vs H Q E ⟨w, xs, _, _, _, hl, _⟩ => hl, fun A outer s H args us vs Q E hr e0 hb r ⟨w, xs, _, _, _, _, h⟩ => h.elim⟩
  | n + 1, i, F, hF => by
    obtain ⟨x, qual, params, body, scope, N, fd, S, hN, hm⟩ := (df i F hF).ex
    refine fnG_of (k := n + 1) fd S (fun vs H Q E ⟨w, xs, _, _, _, hl, _⟩ => hl) fun cdv A outer s H vs Q E hr ⟨w, xs, hH, ok, rs, hl, h⟩ => ?_
    subst hH
    have okFn1 : ∀ m, m = n → ∀ (i : Nat) (F : Fn), P.fn i = some F → FnG Pr wd G.K G.mg base (L2N.CX Pr wd) m (G.fa i) (G.fd i) (G.ps i) (spF G P (m - 1) i) := fun m e i F hF => by
      cases m with
      | zero => exact ⟨fun vs H Q E ⟨w, xs, _, _, _, hl, _⟩ => hl, fun A outer s H args us vs Q E hr e0 hb r ⟨w, xs, _, _, _, _, h⟩ => h.elim⟩
      | succ m => exact okFn hw gl ht df m i F hF
    have c : CtxS G P tb n (cxOf (L2N.CX Pr wd) Pr wd G.K G.mg base N qual scope (G.fa i) cdv A outer s w.H E) scope (fun cls d _ H => E cls d H) := by
      refine ⟨⟨rfl, rfl, hw, S.nd, rfl, rfl, hr, L2N.takes_of rfl rfl rfl rfl, okFn hw gl ht df n, okFn1 n rfl, gl⟩, fun y hy => ⟨?_, .inl rfl⟩, passes_of rfl, rfl, rfl, ht⟩
      unfold locB at hy
      split at hy
      · exact .inl (by assumption)
      · exact .inr (by assumption)
      · cases hy
    refine ⟨_, okSs G P tb n F.body _ scope _ body c hm, w, _, rfl, ok, start_slots rs hN, ?_⟩
    simp only [callN, hF] at h
    split at h
    · exact fn_end ok rfl h
    · exact h.elim
end PC
namespace PC
open PySem PySem.Spec PyProof.Rows L2
/-! ### binding -/
theorem zip_look {α : Type} : ∀ {ps : List Str} {us : List α} {x : Str}, us.length = ps.length → x ∈ ps → ((ps.zip us).lookup x).isNone = false
  | [], _, x, _, h => by simp at h
  | p :: ps, [], x, hl, h => by simp at hl
  | p :: ps, u :: us, x, hl, h => by
    rw [List.zip_cons_cons, List.lookup_cons]
    cases e : x == p with
    | true => rfl
    | false =>
      have : x ∈ ps := by
        rcases List.mem_cons.mp h with z | z
        · rw [z, beq_self_eq_true] at e; cases e
        · exact z
      exact zip_look (by simpa using hl) this
theorem zip_mem {α : Type} : ∀ {ps : List Str} {us : List α} {x : Str}, us.length = ps.length → x ∈ ps → ∃ v, (x, v) ∈ ps.zip us
  | [], _, x, _, h => by simp at h
  | p :: ps, [], x, hl, h => by simp at hl
  | p :: ps, u :: us, x, hl, h => by
    rcases List.mem_cons.mp h with z | z
    · exact ⟨u, by rw [List.zip_cons_cons, z]; exact List.mem_cons_self⟩
    · obtain ⟨v, hv⟩ := zip_mem (us := us) (by simpa using hl) z
      exact ⟨v, by rw [List.zip_cons_cons]; exact List.mem_cons_of_mem _ hv⟩
theorem zip_fm {α : Type} : ∀ {ps : List Str} {us : List α}, ps.Nodup → us.length = ps.length → (ps.filterMap fun n => ((ps.zip us).lookup n).map (n, ·)) = ps.zip us
  | [], us, _, _ => by simp
  | p :: ps, [], _, hl => by simp at hl
  | p :: ps, u :: us, nd, hl => by
    obtain ⟨h1, h2⟩ := List.nodup_cons.mp nd
    have ih := zip_fm (us := us) h2 (by simpa using hl)
    rw [List.filterMap_cons, List.zip_cons_cons, List.lookup_cons, beq_self_eq_true]
    simp only [Option.map_some]
    congr 1
    have cg : ∀ {l : List Str}, p ∉ l → (l.filterMap fun n => (((p, u) :: ps.zip us).lookup n).map (n, ·)) = l.filterMap fun n => ((ps.zip us).lookup n).map (n, ·) := fun {l} hn => by
      induction l with
      | nil => rfl
      | cons a l ih2 =>
        have e : (a == p) = false := by
          rw [beq_eq_false_iff_ne]
          intro z
          exact hn (by simp [z])
        rw [List.filterMap_cons, List.filterMap_cons, List.lookup_cons, e, ih2 fun z => hn (by simp [z])]
    rw [cg h1]
    exact ih
theorem bind_plain {x qual : Str} {as : List Arg} {body : List Stmt} {scope : Scope} {kV doc pm cdv ct : Value} {an : Option Addr} {ps : List Str} (hp : as.map (·.arg) = ps) (nd : ps.Nodup) (us : List Value) (hl : us.length = ps.length) :
    bindArgs (PySem.W.fnOf x qual ⟨[], as, none, [], [], none, []⟩ body scope .none kV doc pm an cdv ct) ⟨us, []⟩ = pure (ps.zip us) := by
  subst hp
  have e1 : ((as.map (·.arg)).filter fun n => (((as.map (·.arg)).zip us).lookup n).isNone) = [] := by
    rw [List.filter_eq_nil_iff]
    intro a ha
    rw [zip_look hl ha]
    decide
  have hg : ¬ (us.length > (as.map (·.arg)).length) := by omega
  have e0 : seqItems? Value.none = pure none := rfl
  have z := zip_fm nd hl
  rw [List.filterMap_map] at z
  have hl2 : us.length = as.length := by simpa using hl
  simp [bindArgs, PySem.W.fnOf, e0, e1, z, hl2]
  intro x hx hn
  obtain ⟨v, hv⟩ := zip_mem hl (List.mem_of_mem_take hx)
  exact absurd hv (hn v)
theorem binds_plain {K : PySem.W.Frag} {x qual : Str} {params : Arguments} {body : List Stmt} {scope : Scope} {f : Addr} {fd : FuncData} {ps : List Str} (F : FunD K x qual params body scope [] [] f fd) (as : List Arg) (hp : params = ⟨[], as, none, [], [], none, []⟩) (ha : as.map (·.arg) = ps) (nd : ps.Nodup) : Binds K fd ps [] := by
  subst hp
  exact F.bindsN fun kV doc pm an cdv ct us hl => bind_plain ha nd us hl
theorem mem_look {α β : Type} [BEq α] [LawfulBEq α] : ∀ {l : List (α × β)} {a : α} {b : β}, l.lookup a = some b → (a, b) ∈ l
  | [], a, b, h => by simp at h
  | (x, y) :: l, a, b, h => by
    rw [List.lookup_cons] at h
    cases e : a == x with
    | true =>
      rw [e] at h
      cases h
      rw [beq_iff_eq.mp e]
      exact List.mem_cons_self
    | false =>
      rw [e] at h
      exact List.mem_cons_of_mem _ (mem_look h)
/-! ### the head -/
structure DI where
  d : He.DefD
  ps : List Str
  N : List Str
/-- a law's own data -/
structure Ld where
  P : Prog
  tb : Tab
  D : List DI
def cFa : Str × T → List He.Fa
  | (x, .int i) => [.int x i]
  | (x, .str z) => [.str x z]
  | _ => []
def Ld.cn (L : Ld) (c : Nat) : Str := L.tb.cls.getD c ""
def Ld.facts (L : Ld) : List He.Fa := (L.tb.hfn.map fun q => .glo q.2) ++ (L.tb.fn.filterMap fun o => o.map .glo) ++ L.tb.blt.map .free ++ L.tb.cst.flatMap cFa ++ L.tb.cls.map .glo ++ (L.tb.exc.filterMap fun o => o.map .exc) ++
  (L.P.meths.map fun q => .meth (L.cn q.1.1) q.1.2) ++ (L.P.inits.flatMap fun q => [.mkr (L.cn q.1), .cls (L.cn q.1)]) ++ L.P.flds.flatMap fun q => [.cls (L.cn q.1), .noat (L.cn q.1) q.2]
def Ld.defs (L : Ld) : List He.DefD := L.D.map (·.d)
def Ld.dat (L : Ld) (i : Nat) : Option DI := match L.P.ix.idxOf? i with
  | some k => L.D[k]?
  | none => none
def atB (L : Ld) (i : Nat) (a : Str × Option Str) : Bool := match L.dat i with
  | some d => decide (d.d.at_ = a) && (L.P.fn i).isSome
  | none => false
def fnScB (N P : List Str) (sc : Scope) : Bool := (sc.kind == .function) && !sc.isCoroutine && !sc.isGenerator && decide N.Nodup && decide (N.take P.length = P) && (P.all fun x => locB sc x true) && sc.names.all fun y => y.2 != .free
theorem fnSc_ok {N P : List Str} {sc : Scope} (h : fnScB N P sc = true) : FnScope N P sc := by
  unfold fnScB at h
  simp only [Bool.and_eq_true, Bool.not_eq_true', decide_eq_true_eq, List.all_eq_true] at h
  obtain ⟨⟨⟨⟨⟨⟨h1, h2⟩, h3⟩, h4⟩, h5⟩, h6⟩, h7⟩ := h
  refine ⟨by simpa using h1, h2, h3, h4, h5, fun x hx => ?_, fun y hy e => ?_⟩
  · have := h6 x hx
    unfold locB at this
    split at this
    · exact .inl (by assumption)
    · exact .inr (by assumption)
    · cases this
  · have := h7 y hy
    rw [e] at this
    cases this
def argsB (p : Arguments) (ps : List Str) : Bool := match p with
  | ⟨[], as, none, [], [], none, []⟩ => decide (as.map (·.arg) = ps)
  | _ => false
theorem args_ok {p : Arguments} {ps : List Str} (h : argsB p ps = true) : ∃ as, p = ⟨[], as, none, [], [], none, []⟩ ∧ as.map (·.arg) = ps := by
  unfold argsB at h
  split at h
  · exact ⟨_, rfl, of_decide_eq_true h⟩
  · cases h
def defB (tb : Tab) (F : Fn) (d : DI) : Bool := fnScB d.N d.ps d.d.scope && decide (d.N.length = F.ns) && decide (d.ps.length = F.np) && d.d.dfl.isEmpty && d.d.kwd.isEmpty && argsB d.d.params d.ps && mSs tb d.N d.d.scope F.body d.d.body
def hdefB (tb : Tab) (F : Fn) (d : DI) : Bool := fnScB d.N d.ps d.d.scope && decide (d.N.length = F.ns) && decide (d.ps.length = 1) && decide (F.np = 1) && d.d.dfl.isEmpty && d.d.kwd.isEmpty && argsB d.d.params d.ps && hmSs tb d.N 0 d.d.scope F.body d.d.body
def hatB (L : Ld) (i : Nat) (a : Str × Option Str) : Bool := match L.dat i with
  | some d => decide (d.d.at_ = a) && (L.P.hfn i).isSome
  | none => false
/-- what isinstance, except ask of the exceptions' classes -/
def excCB (K : PySem.W.Frag) (D : Addr) : Bool := decide (PySem.W.findIn K (.ref D) "__getattribute__" = some (some (.builtin "BaseException.__getattribute__"))) && decide (PySem.W.findIn K (.ref D) "__getattr__" = some none) && decide (PySem.W.subIn K (.ref D) (.type "BaseException") = some true) &&
  PySem.W.hasDictIn K D && decide (PySem.W.findIn K (.ref D) "__class__" = some (some (.builtin "object.__class__"))) && decide (PySem.W.specialIn K (.builtin "object.__class__") "__get__" = some (some (.builtin "getset_descriptor.__get__"))) &&
  decide (PySem.W.takesIn K (.builtin "object.__class__") = some true) && decide (PySem.W.mroIn K D (.type "object") = some true)
theorem excC_of {K : PySem.W.Frag} {D : Addr} (h : excCB K D = true) : ExcC K D := by
  unfold excCB at h
  simp only [Bool.and_eq_true, decide_eq_true_eq] at h
  obtain ⟨⟨⟨⟨⟨⟨⟨h1, h2⟩, h3⟩, h4⟩, h5⟩, h6⟩, h7⟩, h8⟩ := h
  exact ⟨h1, h2, h3, h4, h5, h6, h7, h8⟩
def Ld.ex1 (L : Ld) (K : PySem.W.Frag) (k c : Nat) : Bool := match L.tb.exc[k]?, L.tb.exc[c]? with
  | some (some x), some (some y) => decide (PySem.W.exmOne K (.ref (He.ga K x)) (.ref (He.ga K y)) = some (L.P.sub k (.own c))) && decide (PySem.W.kitOne K (.ref (He.ga K x)) (.ref (He.ga K y)) = some (L.P.sub k (.own c)))
  | _, _ => true
def Ld.ex0 (L : Ld) (K : PySem.W.Frag) (k : Nat) : Bool := match L.tb.exc[k]? with
  | some (some x) => excCB K (He.ga K x) && decide (PySem.W.kitOne K (.ref (He.ga K x)) (.type "ValueError") = some (L.P.sub k .valueError))
  | _ => true
def insCB (K : PySem.W.Frag) (D : Addr) : Bool := decide (PySem.W.findIn K (.ref D) "__class__" = some (some (.builtin "object.__class__"))) && decide (PySem.W.specialIn K (.builtin "object.__class__") "__get__" = some (some (.builtin "getset_descriptor.__get__"))) &&
  decide (PySem.W.takesIn K (.builtin "object.__class__") = some true) && decide (PySem.W.mroIn K D (.type "object") = some true)
theorem insC_of {K : PySem.W.Frag} {D : Addr} (h : insCB K D = true) : InsC K D := by
  unfold insCB at h
  simp only [Bool.and_eq_true, decide_eq_true_eq] at h
  obtain ⟨⟨⟨h1, h2⟩, h3⟩, h4⟩ := h
  exact ⟨h1, h2, h3, h4⟩
def Ld.ex (L : Ld) (K : PySem.W.Frag) : Bool := (!L.tb.tr || ((List.range L.tb.exc.length).all fun k => L.ex0 K k && (List.range L.tb.exc.length).all fun c => L.ex1 K k c)) && L.tb.iso.all fun c => insCB K (He.ga K (L.cn c))
def Ld.okB (L : Ld) : Bool :=
  ((List.range L.tb.fn.length).all fun i => match L.tb.fn[i]? with
    | some (some x) => atB L i (x, none)
    | _ => true) &&
  (L.P.meths.all fun q => atB L q.2 (L.cn q.1.1, some q.1.2)) &&
  (L.P.inits.all fun q => atB L q.2 (L.cn q.1, some "__init__")) &&
  ((List.range L.tb.exc.length).all fun c => match L.tb.exc[c]? with
    | some (some x) => decide (L.tb.cls[c]? = some x)
    | _ => true) &&
  (L.tb.cst.all fun q => !(cFa q).isEmpty) &&
  decide (L.D.length = L.P.fns.length) && (L.P.ix.all fun i => decide (i < mkBase)) &&
  ((L.P.ix.zip (L.P.fns.zip L.D)).all fun q => if L.P.hots.contains q.1 then hdefB L.tb q.2.1 q.2.2 else defB L.tb q.2.1 q.2.2) &&
  (L.tb.hfn.all fun q => hatB L q.1 (q.2, none)) &&
  (L.P.excs.all fun k => match L.tb.exc[k]? with
    | some (some _) => true
    | _ => false)
section
variable {L : Ld} {K : PySem.W.Frag} {h : Heap} {mg : Str → Option Value}
theorem says_mem (c : He.SaysD L.facts L.defs K) {f : He.Fa} (hf : f ∈ L.facts) : f.ok K = true := by
  have c1 := (He.ba (show ((L.facts.all fun f => f.ok K) && L.defs.all fun d => d.ok K) = true from congrArg (fun z : He.AlD => z.1) c)).1
  exact List.all_eq_true.mp c1 f hf
noncomputable def Ld.fd (L : Ld) (K : PySem.W.Frag) (i : Nat) : FuncData := by
  classical
  exact match L.dat i with
    | some d => if q : ∃ fd, FunD K d.d.name d.d.qual d.d.params d.d.body d.d.scope (d.d.dvs K) (d.d.kws K) (He.fAd K d.d.at_) fd then Classical.choose q else default
    | none => default
noncomputable def Ld.glb (L : Ld) (K : PySem.W.Frag) (mg : Str → Option Value) (wd : World) : Glb where
  K := K
  mg := mg
  w := wd
  cls := fun c => He.ga K (L.cn c)
  fa := fun i => match L.dat i with
    | some d => He.fAd K d.d.at_
    | none => 0
  fd := L.fd K
  ps := fun i => match L.dat i with
    | some d => d.ps
    | none => []
theorem dat_at {i : Nat} {d : DI} (hd : L.dat i = some d) : ∃ k : Nat, L.D[k]? = some d := by
  unfold Ld.dat at hd
  split at hd
  · exact ⟨_, hd⟩
  · cases hd
theorem fd_ok (c : He.SaysD L.facts L.defs K) {i : Nat} {d : DI} (hd : L.dat i = some d) : FunD K d.d.name d.d.qual d.d.params d.d.body d.d.scope (d.d.dvs K) (d.d.kws K) (He.fAd K d.d.at_) (L.fd K i) := by
  obtain ⟨k, hk⟩ := dat_at hd
  have q := He.SaysD.def_ c k (d := d.d) (by unfold Ld.defs; rw [List.getElem?_map, hk]; rfl)
  unfold Ld.fd
  simp only [hd]
  rw [dif_pos q]
  exact Classical.choose_spec q
theorem at_ok {i : Nat} {a : Str × Option Str} (h : atB L i a = true) : ∃ d, L.dat i = some d ∧ d.d.at_ = a ∧ (L.P.fn i).isSome = true := by
  unfold atB at h
  split at h
  · rename_i d q
    simp only [Bool.and_eq_true, decide_eq_true_eq] at h
    exact ⟨d, q, h.1, h.2⟩
  · cases h
theorem fa_at {i : Nat} {d : DI} (hd : L.dat i = some d) : (L.glb K mg wd).fa i = He.fAd K d.d.at_ := by
  show (match L.dat i with
    | some d => He.fAd K d.d.at_
    | none => 0) = _
  rw [hd]
theorem ps_at {i : Nat} {d : DI} (hd : L.dat i = some d) : (L.glb K mg wd).ps i = d.ps := by
  show (match L.dat i with
    | some d => d.ps
    | none => []) = _
  rw [hd]
theorem any_at (ok : L.okB = true) {i : Nat} {F : Fn} (hF : L.P.any i = some F) : ∃ d, L.dat i = some d ∧ (if L.P.hots.contains i then hdefB L.tb F d else defB L.tb F d) = true := by
  unfold Ld.okB at ok
  simp only [Bool.and_eq_true, decide_eq_true_eq] at ok
  obtain ⟨⟨⟨⟨⟨_, hl⟩, _⟩, hz⟩, _⟩, _⟩ := ok
  unfold Prog.any at hF
  unfold Ld.dat
  cases q : L.P.ix.idxOf? i with
  | none => rw [q] at hF; cases hF
  | some k =>
    rw [q] at hF
    have hF : L.P.fns[k]? = some F := hF
    have hi : k < L.D.length := by rw [hl]; exact (List.getElem?_eq_some_iff.mp hF).1
    have hx : L.P.ix[k]? = some i := by
      rw [List.idxOf?_eq_some_iff] at q
      obtain ⟨hk, e, _⟩ := q
      rw [List.getElem?_eq_getElem hk, e]
    refine ⟨L.D[k], List.getElem?_eq_getElem hi, ?_⟩
    refine List.all_eq_true.mp hz (i, F, L.D[k]) (List.mem_iff_getElem?.mpr ⟨k, ?_⟩)
    rw [List.getElem?_zip_eq_some]
    refine ⟨hx, ?_⟩
    rw [List.getElem?_zip_eq_some]
    exact ⟨hF, List.getElem?_eq_getElem hi⟩
theorem def_at (ok : L.okB = true) {i : Nat} {F : Fn} (hF : L.P.fn i = some F) : ∃ d, L.dat i = some d ∧ defB L.tb F d = true := by
  unfold Prog.fn at hF
  split at hF
  · cases hF
  · rename_i hn
    obtain ⟨d, hd, hb⟩ := any_at ok hF
    rw [if_neg hn] at hb
    exact ⟨d, hd, hb⟩
theorem hdef_at (ok : L.okB = true) {i : Nat} {F : Fn} (hF : L.P.hfn i = some F) : ∃ d, L.dat i = some d ∧ hdefB L.tb F d = true := by
  unfold Prog.hfn at hF
  split at hF
  · rename_i hn
    obtain ⟨d, hd, hb⟩ := any_at ok hF
    rw [if_pos hn] at hb
    exact ⟨d, hd, hb⟩
  · cases hF
theorem range_all {n : Nat} {f : Nat → Bool} (h : (List.range n).all f = true) {i : Nat} (hi : i < n) : f i = true := List.all_eq_true.mp h i (List.mem_range.mpr hi)
theorem dfk (c : He.SaysD L.facts L.defs K) (ok : L.okB = true) {i : Nat} {F : Fn} (hF : L.P.fn i = some F) :
    ∃ d, L.dat i = some d ∧ FunD K d.d.name d.d.qual d.d.params d.d.body d.d.scope [] [] (He.fAd K d.d.at_) (L.fd K i) ∧ FnScope d.N d.ps d.d.scope ∧ d.N.length = F.ns ∧ d.ps.length = F.np ∧ mSs L.tb d.N d.d.scope F.body d.d.body = true ∧ Binds K (L.fd K i) d.ps [] := by
  obtain ⟨d, hd, hb⟩ := def_at ok hF
  have fk := fd_ok c hd
  unfold defB at hb
  simp only [Bool.and_eq_true, decide_eq_true_eq] at hb
  obtain ⟨⟨⟨⟨⟨⟨h1, h2⟩, h3⟩, h4⟩, h5⟩, h6⟩, h7⟩ := hb
  have e1 : d.d.dvs K = [] := by unfold He.DefD.dvs; rw [List.isEmpty_iff.mp h4]; rfl
  have e2 : d.d.kws K = [] := by unfold He.DefD.kws; rw [List.isEmpty_iff.mp h5]; rfl
  rw [e1, e2] at fk
  have S := fnSc_ok h1
  obtain ⟨as, ha, hp⟩ := args_ok h6
  refine ⟨d, hd, fk, S, h2, h3, h7, binds_plain fk as ha hp ?_⟩
  rw [← S.pre]
  exact S.nd.sublist (List.take_sublist _ _)
theorem fn_low {P : Prog} (h : (P.ix.all fun i => decide (i < mkBase)) = true) (f : Nat) : P.fn (mkBase + f) = none := by
  unfold Prog.fn
  split
  · rfl
  unfold Prog.any
  cases e : P.ix.idxOf? (mkBase + f) with
  | none => rfl
  | some k =>
    rw [List.idxOf?_eq_some_iff] at e
    obtain ⟨hk, e, _⟩ := e
    have := List.all_eq_true.mp h _ (List.getElem_mem hk)
    rw [e] at this
    have := of_decide_eq_true this
    omega
theorem glb_ok (c : He.SaysD L.facts L.defs K) (hex : L.ex K = true) (X : K.In h) (ns : h.Ns mainGlobals mg) (ok : L.okB = true) : GlbOk (L.glb K mg wd) L.P L.tb := by
  have ok0 := ok
  unfold Ld.okB at ok
  simp only [Bool.and_eq_true, decide_eq_true_eq] at ok
  obtain ⟨⟨⟨⟨⟨⟨⟨⟨⟨o1, o2⟩, o3⟩, o4⟩, o5⟩, o6⟩, o8⟩, o7⟩, o9⟩, o10⟩ := ok
  have fnat : ∀ i x, L.tb.fn[i]? = some (some x) → ∃ d, L.dat i = some d ∧ d.d.at_ = (x, none) ∧ (L.P.fn i).isSome = true := fun i x hx => by
    have := range_all o1 (List.getElem?_eq_some_iff.mp hx).1
    rw [hx] at this
    exact at_ok this
  have mk : ∀ {f : He.Fa}, f ∈ L.facts → f.ok K = true := fun hf => says_mem c hf
  have clsF : ∀ {x : Nat}, (He.Fa.cls (L.cn x)) ∈ L.facts → Cls K (He.ga K (L.cn x)) := fun hf => He.cls_ok (mk hf)
  have ga : ∀ {c : Nat} {x : Str}, L.tb.cls[c]? = some x → L.cn c = x := fun {c x} hx => by unfold Ld.cn; rw [List.getD_eq_getElem?_getD, hx]; rfl
  have keep : ∀ (i : Nat) (d : DI), L.dat i = some d → PySem.W.keepIn K (.ref (He.fAd K d.d.at_)) = true := fun i d hd => (fd_ok c hd).kp
  refine ⟨fun i x hx => ?_, ⟨fun i x hx => (fnat i x hx).choose_spec.2.2, fun cc m f hf => ?_, fun cc f hf => ?_⟩, fun i F hF => ?_, fun q hq => ?_, fun x hx => ?_, fun cc x hx => ?_, fun cc x hx => ?_, fun cc m f hf => ?_, fun cc f hf => ?_, fun q hq => ?_, fun f => fn_low o8 f, fun cc hc => insC_of (List.all_eq_true.mp (Bool.and_eq_true_iff.mp hex).2 cc hc)⟩
  · obtain ⟨d, hd, ha, _⟩ := fnat i x hx
    rw [fa_at hd]
    refine ⟨?_, keep i d hd⟩
    rw [ha]
    exact He.glo_ok X ns (mk (by unfold Ld.facts; simp only [List.mem_append, List.mem_filterMap]; exact .inl (.inl (.inl (.inl (.inl (.inl (.inl (.inr ⟨some x, List.mem_of_getElem? hx, rfl⟩)))))))))
  · exact (at_ok (List.all_eq_true.mp o2 _ (mem_look hf))).choose_spec.2.2
  · exact (at_ok (List.all_eq_true.mp o3 _ (mem_look hf))).choose_spec.2.2
  · obtain ⟨d, hd, fk, S, h2, h3, h4, hb⟩ := dfk c ok0 hF
    rw [ps_at hd]
    exact ⟨hb, h3⟩
  · have hm : ∀ f ∈ cFa q, f.ok K = true := fun f hf => mk (by unfold Ld.facts; simp only [List.mem_append, List.mem_flatMap]; exact .inl (.inl (.inl (.inl (.inl (.inr ⟨q, hq, hf⟩))))))
    have hne := List.all_eq_true.mp o5 q hq
    obtain ⟨x, t⟩ := q
    cases t <;> first | (cases hne; done) | skip
    · rename_i i
      obtain ⟨tt, ht⟩ := He.int_ok (x := x) (i := i) X ns (hm (.int x i) (by simp [cFa]))
      exact ⟨.int i, _, ht, ⟨tt, rfl⟩, fun H S => .int i⟩
    · rename_i z
      obtain ⟨tt, ht⟩ := He.str_ok (x := x) (z := z) X ns (hm (.str x z) (by simp [cFa]))
      exact ⟨.str z, _, ht, ⟨tt, rfl⟩, fun H S => .str z⟩
  · exact He.free_ok X ns (mk (by unfold Ld.facts; simp only [List.mem_append, List.mem_map]; exact .inl (.inl (.inl (.inl (.inl (.inl (.inr ⟨x, hx, rfl⟩))))))))
  · have := He.glo_ok (x := x) X ns (mk (by unfold Ld.facts; simp only [List.mem_append, List.mem_map]; exact .inl (.inl (.inl (.inl (.inr ⟨x, List.mem_of_getElem? hx, rfl⟩))))))
    show mg x = some (.ref (He.ga K (L.cn cc)))
    rw [ga hx]
    exact this
  · have hx2 : L.tb.cls[cc]? = some x := by
      have := range_all o4 (List.getElem?_eq_some_iff.mp hx).1
      rw [hx] at this
      exact of_decide_eq_true this
    have hg := He.glo_ok (x := x) X ns (mk (by unfold Ld.facts; simp only [List.mem_append, List.mem_map]; exact .inl (.inl (.inl (.inl (.inr ⟨x, List.mem_of_getElem? hx2, rfl⟩))))))
    obtain ⟨e1, e2, e3, e4⟩ := He.exc_ok (x := x) (mk (by unfold Ld.facts; simp only [List.mem_append, List.mem_filterMap]; exact .inl (.inl (.inl (.inr ⟨some x, List.mem_of_getElem? hx, rfl⟩)))))
    have eg : (L.glb K mg wd).cls cc = He.ga K x := by show He.ga K (L.cn cc) = _; rw [ga hx2]
    refine ⟨by rw [eg]; exact hg, ⟨⟨_, _, _, _, PySem.F.excBase_ValueError, by rw [eg]; exact e1⟩, by rw [eg]; exact e2, by rw [eg]; exact e3, by rw [eg]; exact e4⟩⟩
  · have hmem := mem_look hf
    obtain ⟨d, hd, ha, _⟩ := at_ok (List.all_eq_true.mp o2 _ hmem)
    rw [fa_at hd, ha]
    exact He.meth_ok (mk (by unfold Ld.facts; simp only [List.mem_append, List.mem_map]; exact .inl (.inl (.inr ⟨_, hmem, rfl⟩))))
  · have hmem := mem_look hf
    obtain ⟨d, hd, ha, _⟩ := at_ok (List.all_eq_true.mp o3 _ hmem)
    rw [fa_at hd, ha]
    exact ⟨He.mkr_ok (mk (by unfold Ld.facts; simp only [List.mem_append, List.mem_flatMap]; exact .inl (.inr ⟨_, hmem, by simp⟩))), clsF (by unfold Ld.facts; simp only [List.mem_append, List.mem_flatMap]; exact .inl (.inr ⟨_, hmem, by simp⟩))⟩
  · exact ⟨clsF (by unfold Ld.facts; simp only [List.mem_append, List.mem_flatMap]; exact .inr ⟨q, hq, by simp⟩), He.noat_ok (mk (by unfold Ld.facts; simp only [List.mem_append, List.mem_flatMap]; exact .inr ⟨q, hq, by simp⟩))⟩
theorem hot_ok (c : He.SaysD L.facts L.defs K) (hex : L.ex K = true) (X : K.In h) (ns : h.Ns mainGlobals mg) (ok : L.okB = true) (ht : L.tb.tr = true) : HotOk (L.glb K mg wd) L.P L.tb := by
  have ok0 := ok
  unfold Ld.okB at ok
  simp only [Bool.and_eq_true, decide_eq_true_eq] at ok
  obtain ⟨⟨⟨⟨⟨⟨⟨⟨⟨o1, o2⟩, o3⟩, o4⟩, o5⟩, o6⟩, o8⟩, o7⟩, o9⟩, o10⟩ := ok
  have ex : ∀ k, k < L.tb.exc.length → L.ex0 K k = true ∧ ∀ d, d < L.tb.exc.length → L.ex1 K k d = true := fun k hk => by
    have hex := (Bool.and_eq_true_iff.mp hex).1
    rw [ht] at hex
    have := range_all (show ((List.range L.tb.exc.length).all fun k => L.ex0 K k && (List.range L.tb.exc.length).all fun c => L.ex1 K k c) = true from hex) hk
    rw [Bool.and_eq_true] at this
    exact ⟨this.1, fun d hd => range_all this.2 hd⟩
  have cl : ∀ {k : Nat} {x : Str}, L.tb.exc[k]? = some (some x) → (L.glb K mg wd).cls k = He.ga K x := fun {k x} hx => by
    have hx2 := range_all o4 (List.getElem?_eq_some_iff.mp hx).1
    rw [hx] at hx2
    have hx2 : L.tb.cls[k]? = some x := of_decide_eq_true hx2
    show He.ga K (L.cn k) = _
    unfold Ld.cn
    rw [List.getD_eq_getElem?_getD, hx2]
    rfl
  refine ⟨fun k hk => ?_, fun k d x y hx hy => ?_, fun k x hx => ?_, fun k x hx => ?_, fun f x hx => ?_⟩
  · have := List.all_eq_true.mp o10 k (List.contains_iff_mem.mp hk)
    split at this
    · exact ⟨_, by assumption⟩
    · cases this
  · have := (ex k (List.getElem?_eq_some_iff.mp hx).1).2 d (List.getElem?_eq_some_iff.mp hy).1
    unfold Ld.ex1 at this
    rw [hx, hy] at this
    simp only [Bool.and_eq_true, decide_eq_true_eq] at this
    rw [cl hx, cl hy]
    exact this
  · have := (ex k (List.getElem?_eq_some_iff.mp hx).1).1
    unfold Ld.ex0 at this
    rw [hx] at this
    simp only [Bool.and_eq_true, decide_eq_true_eq] at this
    rw [cl hx]
    exact this.2
  · have := (ex k (List.getElem?_eq_some_iff.mp hx).1).1
    unfold Ld.ex0 at this
    rw [hx] at this
    simp only [Bool.and_eq_true, decide_eq_true_eq] at this
    rw [cl hx]
    exact excC_of this.1
  · have hmem := mem_look hx
    have := List.all_eq_true.mp o9 _ hmem
    unfold hatB at this
    split at this
    · rename_i d hd
      simp only [Bool.and_eq_true, decide_eq_true_eq] at this
      obtain ⟨F, hF⟩ := Option.isSome_iff_exists.mp this.2
      obtain ⟨d', hd', hb⟩ := hdef_at ok0 hF
      rw [hd] at hd'
      cases hd'
      unfold hdefB at hb
      simp only [Bool.and_eq_true, decide_eq_true_eq] at hb
      obtain ⟨⟨⟨⟨⟨⟨⟨h1, h2⟩, h3⟩, h3'⟩, h4⟩, h5⟩, h6⟩, h7⟩ := hb
      have fk := fd_ok c hd
      have e1 : d.d.dvs K = [] := by unfold He.DefD.dvs; rw [List.isEmpty_iff.mp h4]; rfl
      have e2 : d.d.kws K = [] := by unfold He.DefD.kws; rw [List.isEmpty_iff.mp h5]; rfl
      rw [e1, e2] at fk
      have S := fnSc_ok h1
      obtain ⟨as, ha, hp⟩ := args_ok h6
      obtain ⟨p, hps⟩ : ∃ p, d.ps = [p] := by
        match d.ps, h3 with
        | [p], _ => exact ⟨p, rfl⟩
      rw [hps] at S hp
      refine ⟨F, hF, h3', ⟨_, _, _, _, _, d.N, p, by rw [fa_at hd]; exact fk, S, h2, h7, binds_plain fk as ha hp (by simp)⟩, ?_, ?_⟩
      · rw [fa_at hd, this.1]
        exact He.glo_ok X ns (says_mem c (by unfold Ld.facts; simp only [List.mem_append, List.mem_map]; exact .inl (.inl (.inl (.inl (.inl (.inl (.inl (.inl ⟨_, hmem, rfl⟩)))))))))
      · rw [fa_at hd]
        exact (fd_ok c hd).kp
    · cases this
/-- what the head looks at -/
def Ld.obs (L : Ld) (m : Nat) (g : Addr → Option Obj) : Bool × He.AlD := (L.ex (He.frG g (He.asD g m)), He.obsDG m L.facts L.defs g)
def Ld.hook (L : Ld) (m : Nat) : PySem.W.Hook where
  α := Bool × He.AlD
  obs := fun s => L.obs m s.heap.get?
  val := fun _ => (true, He.valD L.defs)
  says := fun _ h => ∃ K : PySem.W.Frag, K.In h ∧ He.SaysD L.facts L.defs K ∧ L.ex K = true
  of := fun _ _ e => ⟨_, He.frG_in, congrArg (fun z : Bool × He.AlD => z.2) e, congrArg (fun z : Bool × He.AlD => z.1) e⟩
  keeps := fun _ _ _ ⟨K, hK, c⟩ k => ⟨K, PySem.W.Frag.In.keeps hK k, c⟩
theorem Ld.obs_eq {L : Ld} {m : Nat} {g : Addr → Option Obj} {s : Shared} (h : ∀ a, g a = s.heap.get? a) : L.obs m g = (L.hook m).obs s := by
  have e : g = s.heap.get? := funext h
  rw [e] <;> rfl
theorem def_ok (c : He.SaysD L.facts L.defs K) (ok : L.okB = true) {i : Nat} {F : Fn} (hF : L.P.fn i = some F) : DefOk (L.glb K mg wd) L.P L.tb i F := by
  obtain ⟨d, hd, fk, S, h2, h3, h4, hb⟩ := dfk c ok hF
  refine ⟨_, _, _, _, _, d.N, by rw [fa_at hd]; exact fk, by rw [ps_at hd]; exact S, h2, h4⟩
end
end PC
namespace PC
open PySem PySem.Spec PyProof.Rows L2
/-! ### the law's end -/
theorem script_world {G : Glb} {H : Hp} {a : Addr} {ns : List Int} (h : SqL G.K H a (ns.map V.int)) : ∃ w : Wd, w.H = H ∧ w.st = [] ∧ w.Ok G ∧ w.R0 G (.ref a) (.nd .scr .fz (ns.map T.int)) := by
  have cs : ∀ (S : Addr → Prop), RepCs G H S (ns.map V.int) (ns.map T.int) := fun S => by
    induction ns with
    | nil => exact .nil
    | cons i r ih =>
      have : ∀ r : List Int, RepCs G H S (r.map V.int) (r.map T.int) := fun r => by
        induction r with
        | nil => exact .nil
        | cons j q ih => exact .cons (.int j) ih
      exact .cons (.int i) (this r)
  have mk : ∀ S : Addr → Prop, (∀ b, S b → ∃ o, H b = some o) → Wd.Ok G ⟨H, [], [], S⟩ := fun S hS => ⟨rfl, List.nodup_nil, fun k b t h1 _ => by simp at h1, hS⟩
  rcases h with h | h
  · refine ⟨⟨H, [], [], fun b => b = a⟩, rfl, rfl, mk _ fun b e => ?_, .cl (.nd rfl (.inl h) (cs _))⟩
    rw [e]
    rcases h with h | ⟨o, h⟩
    · exact ⟨_, h⟩
    · exact ⟨_, h⟩
  · exact ⟨⟨H, [], [], fun _ => False⟩, rfl, rfl, mk _ fun b e => e.elim, .cl (.ndK (fun _ => .inr h) (cs _))⟩
def CXA (P : Program) : CXT := fun outer H s E u s' => ∃ w : World, L2N.CX P w outer H s E u s'
theorem FnG_any {P : Program} {w : World} {K : PySem.W.Frag} {mg : Str → Option Value} {base : Heap} {k : Nat} {f : Addr} {fd : FuncData} {ps : List Str} {sp : Sp} (F : FnG P w K mg base (L2N.CX P w) k f fd ps sp) : FnG P w K mg base (CXA P) k f fd ps sp := by
  refine ⟨F.len, fun A outer s H args us vs Q E hr he hb hv hs => codeAny_mono (F.run A outer s H args us vs Q E hr he hb hv hs) fun r s' h => ?_⟩
  cases r with
  | error e => exact ⟨w, h⟩
  | ok fl => cases fl <;> exact h
theorem law_walk {l : PySem.W.OpenLaw} {L : Ld} {m n fuel li : Nat} {q : Program} {loose : List Str} {XP : (Str → Option Value) → Heap → Prop} {d : DefRec} {x : Str} {F : Fn} {dl : DI}
    (hn : l.most = some n) (hn2 : n ≤ sizeLine) (hdf : d.params.defaults = []) (hr : Room (fuel + 1) callerA) (ok : L.okB = true) (hF : L.P.fn li = some F) (hfn : L.tb.fn[li]? = some (some d.name)) (hd : L.dat li = some dl) (hps : dl.ps = [x])
    (plain : ∀ ns : List Int, ns.length ≤ n → ∃ st, callN L.P fuel li [.nd .scr .fz (ns.map T.int)] [] = .ok (.bl true) st) :
    PySem.W.WalkO q loose XP (L.hook m).says l.row.toRowW d [] (fun f vs => PySem.call f vs) := by
  refine walk_G (x := x) (k := fuel + 1) (CX := CXA l.prog) hn hn2 hdf ⟨hr, rfl⟩ (fun wd mg fa h Y hns hname => ?_) fun H s e s' hc => ?_
  · obtain ⟨K, hK, says, hex⟩ := Y
    have gl := glb_ok (wd := wd) says hex hK hns ok
    have ht := hot_ok (mg := mg) (wd := wd) says hex hK hns ok
    have df : ∀ i F, L.P.fn i = some F → DefOk (L.glb K mg wd) L.P L.tb i F := fun i F hF => def_ok says ok hF
    obtain ⟨d', hd', fk, S, h2, h3, h4, hb⟩ := dfk says ok hF
    rw [hd] at hd'
    cases hd'
    have hfa : fa = (L.glb K mg wd).fa li := by
      have := (gl.fn li d.name hfn).1
      have e : (L.glb K mg wd).mg d.name = some (.ref fa) := hname
      rw [this] at e
      cases e
      rfl
    have hpsl : (L.glb K mg wd).ps li = [x] := by rw [ps_at hd, hps]
    refine ⟨K, L.fd K li, spF (L.glb K mg wd) L.P fuel li, hK, fun s u => ?_, fun H a ns hl hO hS => ?_, fun base hKb hnb => ?_⟩
    · obtain ⟨d2, hd2, hB⟩ := def_at ok hF
      rw [hd] at hd2
      cases hd2
      unfold defB at hB
      simp only [Bool.and_eq_true, decide_eq_true_eq] at hB
      obtain ⟨as, ha, hp⟩ := args_ok hB.1.2
      have fk' : FunD K dl.d.name dl.d.qual ⟨[], as, none, [], [], none, []⟩ dl.d.body dl.d.scope [] [] (He.fAd K dl.d.at_) (L.fd K li) := by rw [← ha]; exact fk
      have := fk'.bindsA (ps := [x]) (fun kV doc pm an cdv ct us hl => bind_plain (hp.trans hps) (by simp) us hl) s [u] rfl
      exact this
    · obtain ⟨w0, e1, e2, ok0, r0⟩ := script_world (G := L.glb K mg wd) hS
      obtain ⟨st, hp⟩ := plain ns hl
      refine ⟨w0, [.nd .scr .fz (ns.map T.int)], e1, ok0, .cons r0 .nil, by rw [hpsl]; rfl, ?_⟩
      rw [e2, hp]
      intro v w' F _ _ _ _ r _
      exact (RO_bl r).1
    · rw [hfa, ← hpsl]
      exact FnG_any (okFn rfl gl ht df fuel li F hF)
  · obtain ⟨w, _, _, _, _, _, _, _, _, _, _, _, _, z⟩ := hc
    exact z
end PC
namespace PC
open PySem PySem.Spec PyProof.Rows L2
/-! ### okB, part by part -/
def Ld.okF (L : Ld) (q : Nat × Fn × DI) : Bool := if L.P.hots.contains q.1 then hdefB L.tb q.2.1 q.2.2 else defB L.tb q.2.1 q.2.2
def Ld.okD (L : Ld) (c i : Nat) : Bool := (((L.P.ix.zip (L.P.fns.zip L.D)).drop (c * i)).take c).all L.okF
def Ld.okR (L : Ld) : Bool :=
  ((List.range L.tb.fn.length).all fun i => match L.tb.fn[i]? with
    | some (some x) => atB L i (x, none)
    | _ => true) &&
  (L.P.meths.all fun q => atB L q.2 (L.cn q.1.1, some q.1.2)) &&
  (L.P.inits.all fun q => atB L q.2 (L.cn q.1, some "__init__")) &&
  ((List.range L.tb.exc.length).all fun c => match L.tb.exc[c]? with
    | some (some x) => decide (L.tb.cls[c]? = some x)
    | _ => true) &&
  (L.tb.cst.all fun q => !(cFa q).isEmpty) &&
  decide (L.D.length = L.P.fns.length) && (L.P.ix.all fun i => decide (i < mkBase)) &&
  (L.tb.hfn.all fun q => hatB L q.1 (q.2, none)) &&
  (L.P.excs.all fun k => match L.tb.exc[k]? with
    | some (some _) => true
    | _ => false)
theorem all_parts {α : Type} {f : α → Bool} {c : Nat} : ∀ (k : Nat) (l : List α), (∀ i, i < k → ((l.drop (c * i)).take c).all f = true) → l.length ≤ c * k → l.all f = true
  | 0, l, _, h => by
    have : l = [] := List.length_eq_zero_iff.mp (by omega)
    rw [this]; rfl
  | k + 1, l, h, hl => by
    have h0 := h 0 (Nat.succ_pos _)
    rw [Nat.mul_zero, List.drop_zero] at h0
    have h1 := all_parts k (l.drop c) (fun i hi => by
      have := h (i + 1) (Nat.succ_lt_succ hi)
      rw [List.drop_drop]
      rw [Nat.mul_add, Nat.mul_one] at this
      rwa [Nat.add_comm c (c * i)]) (by rw [List.length_drop]; rw [Nat.mul_add, Nat.mul_one] at hl; omega)
    rw [← List.take_append_drop c l, List.all_append, h0, h1]; rfl
theorem Ld.okB_of {L : Ld} {c k : Nat} (hr : L.okR = true) (hd : ∀ i, i < k → L.okD c i = true) (hl : (L.P.ix.zip (L.P.fns.zip L.D)).length ≤ c * k) : L.okB = true := by
  have ha : ((L.P.ix.zip (L.P.fns.zip L.D)).all fun q => if L.P.hots.contains q.1 then hdefB L.tb q.2.1 q.2.2 else defB L.tb q.2.1 q.2.2) = true := all_parts k _ hd hl
  unfold Ld.okR at hr
  simp only [Bool.and_eq_true] at hr
  obtain ⟨⟨⟨⟨⟨⟨⟨⟨h1, h2⟩, h3⟩, h4⟩, h5⟩, h6⟩, h7⟩, h8⟩, h9⟩ := hr
  unfold Ld.okB
  simp only [Bool.and_eq_true]
  exact ⟨⟨⟨⟨⟨⟨⟨⟨⟨h1, h2⟩, h3⟩, h4⟩, h5⟩, h6⟩, h7⟩, ha⟩, h8⟩, h9⟩
end PC
namespace PL
open PC
open PySem
class M_blade (P : Prog) : Prop where
  m_blade : P.meths.lookup (14, ("blade" : Str)) = some 4
class M_kinds (P : Prog) : Prop where
  m_kinds : P.meths.lookup (14, ("kinds" : Str)) = some 5
class M_may_lie (P : Prog) : Prop where
  m_may_lie : P.meths.lookup (14, ("may_lie" : Str)) = some 6
class M_lyings (P : Prog) : Prop where
  m_lyings : P.meths.lookup (14, ("lyings" : Str)) = some 7
class M_sides (P : Prog) : Prop where
  m_sides : P.meths.lookup (14, ("sides" : Str)) = some 8
class M_keep (P : Prog) : Prop where
  m_keep : P.meths.lookup (15, ("keep" : Str)) = some 102
class M_come (P : Prog) : Prop where
  m_come : P.meths.lookup (15, ("come" : Str)) = some 103
class M_put (P : Prog) : Prop where
  m_put : P.meths.lookup (15, ("put" : Str)) = some 104
class M_cut (P : Prog) : Prop where
  m_cut : P.meths.lookup (15, ("cut" : Str)) = some 105
class M_plates (P : Prog) : Prop where
  m_plates : P.meths.lookup (15, ("plates" : Str)) = some 106
class M_made (P : Prog) : Prop where
  m_made : P.meths.lookup (15, ("made" : Str)) = some 107
class M_cells (P : Prog) : Prop where
  m_cells : P.meths.lookup (15, ("cells" : Str)) = some 108
class M_undo (P : Prog) : Prop where
  m_undo : P.meths.lookup (15, ("undo" : Str)) = some 109
class M_best (P : Prog) : Prop where
  m_best : P.meths.lookup (16, ("best" : Str)) = some 114
class M_few (P : Prog) : Prop where
  m_few : P.meths.lookup (16, ("few" : Str)) = some 115
class M_report (P : Prog) : Prop where
  m_report : P.meths.lookup (16, ("report" : Str)) = some 116
class I_14 (P : Prog) : Prop where
  i_14 : P.inits.lookup 14 = some 3
  l_14 : P.fn (mkBase + 3) = none
class I_15 (P : Prog) : Prop where
  i_15 : P.inits.lookup 15 = some 101
  l_15 : P.fn (mkBase + 101) = none
class I_16 (P : Prog) : Prop where
  i_16 : P.inits.lookup 16 = some 113
  l_16 : P.fn (mkBase + 113) = none
/-- 0 is_whole(thing, least): 0 thing 1 least -/
def F_is_whole : Fn := ⟨2, 2, (.cons (.ret (.and (.isi (.var 0) [.int]) (.and (.not (.isi (.var 0) [.bool])) (.cmp .GtE (.var 0) (.var 1))))) .nil)⟩
class C_is_whole (P : Prog) : Prop where
  f0 : P.fn 0 = some F_is_whole
/-- 1 is_listed(thing, least, most): 0 thing 1 least 2 most -/
def F_is_listed : Fn := ⟨3, 3, (.cons (.ret (.and (.isi (.var 0) [.list, .tuple]) (.and (.cmp .LtE (.var 1) (.bi .len (.cons (.var 0) .nil))) (.cmp .LtE (.bi .len (.cons (.var 0) .nil)) (.var 2))))) .nil)⟩
class C_is_listed (P : Prog) : Prop where
  f1 : P.fn 1 = some F_is_listed
/-- 4 Shop.blade(self): 0 self -/
def F_Shop_blade : Fn := ⟨1, 1, (.cons (.ret (.fld (.var 0) "blade_width")) .nil)⟩
class C_Shop_blade (P : Prog) : Prop where
  f4 : P.fn 4 = some F_Shop_blade
/-- 5 Shop.kinds(self): 0 self -/
def F_Shop_kinds : Fn := ⟨1, 1, (.cons (.ret (.bi .list (.cons (.fld (.var 0) "rows") .nil))) .nil)⟩
class C_Shop_kinds (P : Prog) : Prop where
  f5 : P.fn 5 = some F_Shop_kinds
/-- 61 are_weights(thing, least, most): 0 thing 1 least 2 most 3 weight -/
def F_are_weights : Fn := ⟨3, 4, (.cons (.ret (.and (.call 1 (.cons (.var 0) (.cons (.var 1) (.cons (.var 2) .nil)))) (.bi .all (.cons (.comp (.call 0 (.cons (.var 3) (.cons (.lit (.int 0)) .nil))) false (.name 3) (.seq (.var 0)) (.lit (.bl true))) .nil)))) .nil)⟩
class C_are_weights (P : Prog) : Prop extends C_is_whole P, C_is_listed P where
  f61 : P.fn 61 = some F_are_weights
/-- 62 best_first(blade, weights, best, side): 0 blade 1 weights 2 best 3 side 4 found 5 length 6 left -/
def F_best_first : Fn := ⟨4, 7, (.cons (.asg (.name 4) (.tup (.cons (.lit (.int 0)) (.cons (.lit (.int 0)) .nil)))) (.cons (.for_ (.name 5) (.rng2 (.lit (.int 1)) (.bin .Add (.var 3) (.lit (.int 1)))) (.cons (.asg (.name 6) (.bi .max2 (.cons (.lit (.int 0)) (.cons (.bin .Sub (.bin .Sub (.var 3) (.var 5)) (.var 0)) .nil)))) (.cons (.asg (.name 4) (.bi .max2 (.cons (.var 4) (.cons (.tup (.cons (.bin .Add (.idx (.var 1) (.bin .Sub (.var 5) (.lit (.int 1)))) (.idx (.var 2) (.var 6))) (.cons (.var 5) .nil))) .nil)))) .nil))) (.cons (.ret (.var 4)) .nil)))⟩
class C_best_first (P : Prog) : Prop where
  f62 : P.fn 62 = some F_best_first
/-- 63 loads_of(blade, weights): 0 blade 1 weights 2 best 3 firsts 4 side 5 load 6 length -/
def F_loads_of : Fn := ⟨2, 7, (.cons (.asg (.name 2) (.keep 1 (.lst (.cons (.lit (.int 0)) .nil)))) (.cons (.asg (.name 3) (.keep 1 (.lst (.cons (.lit (.int 0)) .nil)))) (.cons (.for_ (.name 4) (.rng2 (.lit (.int 1)) (.bin .Add (.bi .len (.cons (.var 1) .nil)) (.lit (.int 1)))) (.cons (.asg (.tup [(.name 5), (.name 6)]) (.call 62 (.cons (.var 0) (.cons (.var 1) (.cons (.var 2) (.cons (.var 4) .nil)))))) (.cons (.ex (.bm .append (.var 2) (.cons (.var 5) .nil))) (.cons (.ex (.bm .append (.var 3) (.cons (.var 6) .nil))) .nil)))) (.cons (.ret (.tup (.cons (.var 2) (.cons (.var 3) .nil)))) .nil))))⟩
class C_loads_of (P : Prog) : Prop extends C_best_first P where
  f63 : P.fn 63 = some F_loads_of
/-- 64 lengths_by(blade, firsts, side): 0 blade 1 firsts 2 side 3 found -/
def F_lengths_by : Fn := ⟨3, 4, (.cons (.asg (.name 3) (.keep 1 (.lst .nil))) (.cons (.whl 100000 (.cmp .Gt (.var 2) (.lit (.int 0))) (.cons (.ex (.bm .append (.var 3) (.cons (.idx (.var 1) (.var 2)) .nil))) (.cons (.asg (.name 2) (.bin .Sub (.bin .Sub (.var 2) (.idx (.var 1) (.var 2))) (.var 0))) .nil))) (.cons (.ret (.bi .sorted (.cons (.var 3) .nil))) .nil)))⟩
class C_lengths_by (P : Prog) : Prop where
  f64 : P.fn 64 = some F_lengths_by
/-- 65 load_of(blade, weights, side): 0 blade 1 weights 2 side 3 best 4 firsts -/
def F_load_of : Fn := ⟨3, 5, (.cons (.ite (.not (.call 0 (.cons (.var 0) (.cons (.lit (.int 0)) .nil)))) (.cons (.rai 1) .nil) .nil) (.cons (.ite (.not (.call 61 (.cons (.var 1) (.cons (.lit (.int 1)) (.cons (.glb "MOST_WEIGHTS" (.int 60)) .nil))))) (.cons (.rai 12) .nil) .nil) (.cons (.ite (.or (.not (.call 0 (.cons (.var 2) (.cons (.lit (.int 1)) .nil)))) (.cmp .Gt (.var 2) (.bi .len (.cons (.var 1) .nil)))) (.cons (.rai 11) .nil) .nil) (.cons (.asg (.tup [(.name 3), (.name 4)]) (.call 63 (.cons (.var 0) (.cons (.var 1) .nil)))) (.cons (.ret (.tupX (.cons (.idx (.var 3) (.var 2)) (.cons (.call 64 (.cons (.var 0) (.cons (.var 4) (.cons (.var 2) .nil)))) .nil)))) .nil)))))⟩
class C_load_of (P : Prog) : Prop extends C_is_whole P, C_are_weights P, C_loads_of P, C_lengths_by P where
  f65 : P.fn 65 = some F_load_of
/-- 138 _law_cell(_law_script, _law_k): 0 _law_script 1 _law_k -/
def F_law_cell_k31 : Fn := ⟨2, 2, (.cons (.ite (.cmp .Lt (.var 1) (.bi .len (.cons (.var 0) .nil))) (.cons (.ret (.idx (.var 0) (.var 1))) .nil) .nil) (.cons (.ret (.lit (.int 0))) .nil))⟩
class C_law_cell_k31 (P : Prog) : Prop where
  f138 : P.fn 138 = some F_law_cell_k31
/-- 172 _law_pot(_law_cell_here): 0 _law_cell_here -/
def F_law_pot_k61 : Fn := ⟨1, 1, (.cons (.ret (.lst (.cons (.bi .max2 (.cons (.lit (.int 0)) (.cons (.bin .Sub (.bi .abs (.cons (.var 0) .nil)) (.bin .Pow (.lit (.int 10)) (.lit (.int 18)))) .nil))) (.cons (.bin .Add (.bin .Mod (.bi .abs (.cons (.var 0) .nil)) (.lit (.int 2147483629))) (.lit (.int 1))) .nil)))) .nil)⟩
class C_law_pot_k61 (P : Prog) : Prop where
  f172 : P.fn 172 = some F_law_pot_k61
/-- 173 _law_draw(_law_pot_here, _law_many): 0 _law_pot_here 1 _law_many 2 _law_digit -/
def F_law_draw_k62 : Fn := ⟨2, 3, (.cons (.ite (.cmp .Gt (.idx (.var 0) (.lit (.int 0))) (.lit (.int 0))) (.cons (.subn (.var 0) (.lit (.int 0)) 2 (.bi .divmod (.cons (.idx (.var 0) (.lit (.int 0))) (.cons (.var 1) .nil)))) (.cons (.ret (.var 2)) .nil)) .nil) (.cons (.sub (.var 0) (.lit (.int 1)) (.bin .Mod (.bin .Add (.bin .Mult (.idx (.var 0) (.lit (.int 1))) (.lit (.int 48271))) (.lit (.int 11))) (.lit (.int 2147483647)))) (.cons (.ret (.bin .Mod (.bin .FloorDiv (.bin .Mod (.bin .Mult (.idx (.var 0) (.lit (.int 1))) (.idx (.var 0) (.lit (.int 1)))) (.lit (.int 2147483629))) (.lit (.int 3))) (.var 1))) .nil)))⟩
class C_law_draw_k62 (P : Prog) : Prop where
  f173 : P.fn 173 = some F_law_draw_k62
/-- 174 _law_great(_law_pot_here): 0 _law_pot_here -/
def F_law_great_k62 : Fn := ⟨1, 1, (.cons (.ret (.bin .Mod (.bin .Mult (.call 173 (.cons (.var 0) (.cons (.bin .Pow (.lit (.int 10)) (.lit (.int 58))) .nil))) (.bin .Pow (.lit (.int 982451653)) (.lit (.int 5)))) (.bin .Pow (.lit (.int 10)) (.lit (.int 58))))) .nil)⟩
class C_law_great_k62 (P : Prog) : Prop extends C_law_draw_k62 P where
  f174 : P.fn 174 = some F_law_great_k62
end PL
namespace Z
open PySem PySem.Spec PyProof.Rows L2 PC PL
/-- 210 _law_bad_blade(_law_pot_here): 0 _law_pot_here 1 _law_some -/
def f210 : Fn := ⟨1, 2, (.cons (.asg (.name 1) (.lst (.cons (.neg (.lit (.int 1))) (.cons (.bin .Sub (.neg (.lit (.int 1))) (.call 174 (.cons (.var 0) .nil))) (.cons (.lit (.bl true)) (.cons (.lit (.bl false)) (.cons (.lit (.str "1")) (.cons (.lst (.cons (.lit (.int 1)) .nil)) (.cons (.tup (.cons (.lit (.int 1)) .nil)) (.cons (.lit .non) (.cons (.dic .nil .nil) .nil))))))))))) (.cons (.ret (.idx (.var 1) (.call 173 (.cons (.var 0) (.cons (.bi .len (.cons (.var 1) .nil)) .nil))))) .nil))⟩
/-- 211 _law_bad_side(_law_pot_here, _law_many): 0 _law_pot_here 1 _law_many 2 _law_some -/
def f211 : Fn := ⟨2, 3, (.cons (.asg (.name 2) (.lst (.cons (.lit (.int 0)) (.cons (.neg (.lit (.int 1))) (.cons (.bin .Sub (.neg (.lit (.int 1))) (.call 174 (.cons (.var 0) .nil))) (.cons (.bin .Add (.var 1) (.lit (.int 1))) (.cons (.bin .Add (.bin .Add (.var 1) (.lit (.int 1))) (.call 174 (.cons (.var 0) .nil))) (.cons (.lit (.bl true)) (.cons (.lit (.str "1")) (.cons (.lst (.cons (.lit (.int 1)) .nil)) (.cons (.lit .non) .nil))))))))))) (.cons (.ret (.idx (.var 2) (.call 173 (.cons (.var 0) (.cons (.bi .len (.cons (.var 2) .nil)) .nil))))) .nil))⟩
/-- 212 _law_bad_weights(_law_pot_here, _law_weights): 0 _law_pot_here 1 _law_weights 2 _law_way 3 _law_bad 4 _law_at -/
def f212 : Fn := ⟨2, 5, (.cons (.asg (.name 2) (.call 173 (.cons (.var 0) (.cons (.lit (.int 10)) .nil)))) (.cons (.ite (.cmp .Lt (.var 2) (.lit (.int 5))) (.cons (.asg (.name 3) (.idx (.lst (.cons (.neg (.lit (.int 1))) (.cons (.lit (.bl true)) (.cons (.lit (.str "1")) (.cons (.lit .non) (.cons (.lst (.cons (.lit (.int 1)) .nil)) (.cons (.bin .Sub (.neg (.lit (.int 1))) (.call 174 (.cons (.var 0) .nil))) .nil))))))) (.call 173 (.cons (.var 0) (.cons (.lit (.int 6)) .nil))))) (.cons (.asg (.name 4) (.call 173 (.cons (.var 0) (.cons (.bin .Add (.bi .len (.cons (.var 1) .nil)) (.lit (.int 1))) .nil)))) (.cons (.ret (.idx (.lst (.cons (.bin .Add (.bin .Add (.slc (.var 1) .nop (.var 4)) (.lst (.cons (.var 3) .nil))) (.slc (.var 1) (.var 4) .nop)) (.cons (.bi .tuple (.cons (.bin .Add (.bin .Add (.slc (.var 1) .nop (.var 4)) (.lst (.cons (.var 3) .nil))) (.slc (.var 1) (.var 4) .nop)) .nil)) .nil))) (.bin .Mod (.var 2) (.lit (.int 2))))) .nil))) .nil) (.cons (.ret (.idx (.lst (.cons (.lst .nil) (.cons (.tup .nil) (.cons (.bin .Mult (.lst (.cons (.lit (.int 1)) .nil)) (.lit (.int 61))) (.cons (.lit (.str "12")) (.cons (.dis (.lit (.int 1)) (.lit (.int 1))) .nil)))))) (.bin .Sub (.var 2) (.lit (.int 5))))) .nil)))⟩
/-- 213 _law_kinds(_law_error): 0 _law_error 1 _law_some 2 _law_k -/
def f213 : Fn := ⟨1, 3, (.cons (.asg (.name 1) (.lst (.cons (.isi (.var 0) [.own 1]) (.cons (.isi (.var 0) [.own 12]) (.cons (.isi (.var 0) [.own 11]) .nil))))) (.cons (.asg (.name 1) (.bin .Add (.var 1) (.lst (.cons (.isi (.var 0) [.own 3]) (.cons (.isi (.var 0) [.own 2]) (.cons (.isi (.var 0) [.own 8]) .nil)))))) (.cons (.asg (.name 1) (.bin .Add (.var 1) (.lst (.cons (.isi (.var 0) [.own 4]) (.cons (.isi (.var 0) [.own 6]) (.cons (.isi (.var 0) [.own 10]) .nil)))))) (.cons (.asg (.name 1) (.bin .Add (.var 1) (.lst (.cons (.isi (.var 0) [.own 13]) (.cons (.isi (.var 0) [.own 5]) (.cons (.isi (.var 0) [.own 7]) .nil)))))) (.cons (.asg (.name 1) (.bin .Add (.var 1) (.lst (.cons (.isi (.var 0) [.own 9]) (.cons (.isi (.var 0) [.valueError]) .nil))))) (.cons (.ret (.comp (.var 2) false (.name 2) (.rng1 (.lit (.int 14))) (.idx (.var 1) (.var 2)))) .nil))))))⟩
/-- 214 _law_told(_law_blade, _law_weights, _law_side): 0 _law_blade 1 _law_weights 2 _law_side 3 _law_error 4 _law_found -/
def f214 : Fn := ⟨3, 5, (.cons (.try_ (.cons (.asg (.name 4) (.call 65 (.cons (.var 0) (.cons (.var 1) (.cons (.var 2) .nil))))) .nil) (.cons (.own 0) (some 3) (.cons (.ret (.call 213 (.cons (.var 3) .nil))) .nil) .nil)) (.cons (.ret (.and (.isi (.var 4) [.tuple]) (.and (.cmp .Eq (.bi .len (.cons (.var 4) .nil)) (.lit (.int 2))) (.isi (.idx (.var 4) (.lit (.int 1))) [.list])))) .nil))⟩
/-- 215 _law_right(_law_pot_here): 0 _law_pot_here 1 _law_weights 2 _law_bad 3 _law_blade 4 _law_side 5 _law_handed 6 _law_due 7 _law_kept 8 _law_k -/
def f215 : Fn := ⟨1, 9, (.cons (.asg (.name 1) (.comp (.call 173 (.cons (.var 0) (.cons (.lit (.int 9)) .nil))) false (.name 8) (.rng1 (.bin .Add (.lit (.int 1)) (.call 173 (.cons (.var 0) (.cons (.lit (.int 8)) .nil))))) (.lit (.bl true)))) (.cons (.asg (.name 2) (.call 173 (.cons (.var 0) (.cons (.lit (.int 8)) .nil)))) (.cons (.asg (.name 3) (.call 173 (.cons (.var 0) (.cons (.lit (.int 4)) .nil)))) (.cons (.asg (.name 4) (.bin .Add (.lit (.int 1)) (.call 173 (.cons (.var 0) (.cons (.bi .len (.cons (.var 1) .nil)) .nil))))) (.cons (.asg (.name 5) (.idx (.lst (.cons (.bi .list (.cons (.var 1) .nil)) (.cons (.bi .tuple (.cons (.var 1) .nil)) .nil))) (.call 173 (.cons (.var 0) (.cons (.lit (.int 2)) .nil))))) (.cons (.asg (.name 6) (.lit (.bl true))) (.cons (.ite (.cmp .Eq (.bin .Mod (.bin .FloorDiv (.var 2) (.lit (.int 4))) (.lit (.int 2))) (.lit (.int 1))) (.cons (.asg (.name 4) (.call 211 (.cons (.var 0) (.cons (.bi .len (.cons (.var 1) .nil)) .nil)))) (.cons (.asg (.name 6) (.lst (.cons (.lit (.int 2)) (.cons (.lit (.int 13)) .nil)))) .nil)) .nil) (.cons (.ite (.cmp .Eq (.bin .Mod (.bin .FloorDiv (.var 2) (.lit (.int 2))) (.lit (.int 2))) (.lit (.int 1))) (.cons (.asg (.name 5) (.call 212 (.cons (.var 0) (.cons (.var 1) .nil)))) (.cons (.asg (.name 6) (.lst (.cons (.lit (.int 1)) (.cons (.lit (.int 13)) .nil)))) .nil)) .nil) (.cons (.ite (.cmp .Eq (.bin .Mod (.var 2) (.lit (.int 2))) (.lit (.int 1))) (.cons (.asg (.name 3) (.call 210 (.cons (.var 0) .nil))) (.cons (.asg (.name 6) (.lst (.cons (.lit (.int 0)) (.cons (.lit (.int 13)) .nil)))) .nil)) .nil) (.cons (.asg (.name 7) (.bi .repr (.cons (.lst (.cons (.var 3) (.cons (.var 5) (.cons (.var 4) .nil)))) .nil))) (.cons (.for_ (.name 8) (.rng1 (.lit (.int 2))) (.cons (.ite (.cmp .NotEq (.call 214 (.cons (.var 3) (.cons (.var 5) (.cons (.var 4) .nil)))) (.var 6)) (.cons (.ret (.lit (.bl false))) .nil) .nil) .nil)) (.cons (.ret (.cmp .Eq (.bi .repr (.cons (.lst (.cons (.var 3) (.cons (.var 5) (.cons (.var 4) .nil)))) .nil)) (.var 7))) .nil))))))))))))⟩
/-- 216 law(_law_script): 0 _law_script 1 _law_k -/
def f216 : Fn := ⟨1, 2, (.cons (.for_ (.name 1) (.rng1 (.bin .Add (.bi .min2 (.cons (.bi .len (.cons (.var 0) .nil)) (.cons (.lit (.int 10)) .nil))) (.lit (.int 1)))) (.cons (.ite (.not (.call 215 (.cons (.keep 1 (.call 172 (.cons (.call 138 (.cons (.var 0) (.cons (.var 1) .nil))) .nil))) .nil))) (.cons (.ret (.lit (.bl false))) .nil) .nil) .nil)) (.cons (.ret (.lit (.bl true))) .nil))⟩
def sub : Nat → Ty → Bool
  | 0, .own 0 => true
  | 0, .valueError => true
  | 1, .own 1 => true
  | 1, .own 0 => true
  | 1, .valueError => true
  | 2, .own 2 => true
  | 2, .own 0 => true
  | 2, .valueError => true
  | 3, .own 3 => true
  | 3, .own 0 => true
  | 3, .valueError => true
  | 4, .own 4 => true
  | 4, .own 0 => true
  | 4, .valueError => true
  | 5, .own 5 => true
  | 5, .own 0 => true
  | 5, .valueError => true
  | 6, .own 6 => true
  | 6, .own 0 => true
  | 6, .valueError => true
  | 7, .own 7 => true
  | 7, .own 0 => true
  | 7, .valueError => true
  | 8, .own 8 => true
  | 8, .own 0 => true
  | 8, .valueError => true
  | 9, .own 9 => true
  | 9, .own 0 => true
  | 9, .valueError => true
  | 10, .own 10 => true
  | 10, .own 0 => true
  | 10, .valueError => true
  | 11, .own 11 => true
  | 11, .own 0 => true
  | 11, .valueError => true
  | 12, .own 12 => true
  | 12, .own 0 => true
  | 12, .valueError => true
  | 13, .own 13 => true
  | 13, .own 0 => true
  | 13, .valueError => true
  | _, _ => false
def prog : Prog := ⟨[0, 1, 61, 62, 63, 64, 65, 138, 172, 173, 174, 210, 211, 212, 213, 214, 215, 216], [F_is_whole, F_is_listed, F_are_weights, F_best_first, F_loads_of, F_lengths_by, F_load_of, F_law_cell_k31, F_law_pot_k61, F_law_draw_k62, F_law_great_k62, f210, f211, f212, f213, f214, f215, f216], [], [], sub, [], [213], [0, 1, 2, 3, 4, 5, 6, 7, 8, 9, 10, 11, 12, 13]⟩
instance : C_is_whole prog where
  f0 := rfl
instance : C_is_listed prog where
  f1 := rfl
instance : C_are_weights prog where
  f61 := rfl
instance : C_best_first prog where
  f62 := rfl
instance : C_loads_of prog where
  f63 := rfl
instance : C_lengths_by prog where
  f64 := rfl
instance : C_load_of prog where
  f65 := rfl
instance : C_law_cell_k31 prog where
  f138 := rfl
instance : C_law_pot_k61 prog where
  f172 := rfl
instance : C_law_draw_k62 prog where
  f173 := rfl
instance : C_law_great_k62 prog where
  f174 := rfl
class Own (P : Prog) : Prop where
  p210 : P.fn 210 = some f210
  p211 : P.fn 211 = some f211
  p212 : P.fn 212 = some f212
  p214 : P.fn 214 = some f214
  p215 : P.fn 215 = some f215
  p216 : P.fn 216 = some f216
instance : Own prog where
  p210 := rfl
  p211 := rfl
  p212 := rfl
  p214 := rfl
  p215 := rfl
  p216 := rfl
end Z
set_option maxHeartbeats 0
namespace Z
open PySem PySem.Spec PyProof.Rows L2 PC PL
def top (i : Nat) : Stmt := PySem.Challenge.pw_platecuts_k62_loads_refused.main.body.getD i (.Pass ⟨0, 0, 0, 0⟩)
def fnN : List (Nat × PySem.Str) := ([(0, "is_whole"), (1, "is_listed"), (61, "are_weights"), (62, "best_first"), (63, "loads_of"), (64, "lengths_by"), (65, "load_of"), (138, "_law_cell"), (172, "_law_pot"), (173, "_law_draw"), (174, "_law_great"), (210, "_law_bad_blade")] : List (Nat × PySem.Str)) ++ ([(211, "_law_bad_side"), (212, "_law_bad_weights"), (214, "_law_told"), (215, "_law_right"), (216, "law")] : List (Nat × PySem.Str))
def tb : Tab := ⟨(List.range 217).map (fun i => fnN.lookup i), [("MOST_WEIGHTS", (.int 60))], ["isinstance", "int", "bool", "list", "tuple", "len", "all", "range", "max", "sorted", "abs", "divmod", "ValueError", "repr", "min"], ["PlateError", "NoBlade", "NoKinds", "NoKind", "NoLying", "NoText", "NoPlate", "NoTree", "NoLaying", "TooLarge", "NoTable", "NoNumber", "NoWeights", "NoTelling", "PlateError", "PlateError", "PlateError"], [some "PlateError", some "NoBlade", some "NoKinds", some "NoKind", some "NoLying", some "NoText", some "NoPlate", some "NoTree", some "NoLaying", some "TooLarge", some "NoTable", some "NoNumber", some "NoWeights", some "NoTelling", none, none, none], true, [(213, "_law_kinds")], []⟩
def d0 : DI := ⟨⟨("is_whole", none), "is_whole", "is_whole", defArgs (top 16), defBody (top 16), defScope (top 16), [], []⟩, ["thing", "least"], ["thing", "least"]⟩
def d1 : DI := ⟨⟨("is_listed", none), "is_listed", "is_listed", defArgs (top 17), defBody (top 17), defScope (top 17), [], []⟩, ["thing", "least", "most"], ["thing", "least", "most"]⟩
def d2 : DI := ⟨⟨("are_weights", none), "are_weights", "are_weights", defArgs (top 20), defBody (top 20), defScope (top 20), [], []⟩, ["thing", "least", "most"], ["thing", "least", "most", "weight"]⟩
def d3 : DI := ⟨⟨("best_first", none), "best_first", "best_first", defArgs (top 21), defBody (top 21), defScope (top 21), [], []⟩, ["blade", "weights", "best", "side"], ["blade", "weights", "best", "side", "found", "length", "left"]⟩
def d4 : DI := ⟨⟨("loads_of", none), "loads_of", "loads_of", defArgs (top 22), defBody (top 22), defScope (top 22), [], []⟩, ["blade", "weights"], ["blade", "weights", "best", "firsts", "side", "load", "length"]⟩
def d5 : DI := ⟨⟨("lengths_by", none), "lengths_by", "lengths_by", defArgs (top 23), defBody (top 23), defScope (top 23), [], []⟩, ["blade", "firsts", "side"], ["blade", "firsts", "side", "found"]⟩
def d6 : DI := ⟨⟨("load_of", none), "load_of", "load_of", defArgs (top 24), defBody (top 24), defScope (top 24), [], []⟩, ["blade", "weights", "side"], ["blade", "weights", "side", "best", "firsts"]⟩
def d7 : DI := ⟨⟨("_law_cell", none), "_law_cell", "_law_cell", defArgs (top 26), defBody (top 26), defScope (top 26), [], []⟩, ["_law_script", "_law_k"], ["_law_script", "_law_k"]⟩
def d8 : DI := ⟨⟨("_law_pot", none), "_law_pot", "_law_pot", defArgs (top 27), defBody (top 27), defScope (top 27), [], []⟩, ["_law_cell_here"], ["_law_cell_here"]⟩
def d9 : DI := ⟨⟨("_law_draw", none), "_law_draw", "_law_draw", defArgs (top 28), defBody (top 28), defScope (top 28), [], []⟩, ["_law_pot_here", "_law_many"], ["_law_pot_here", "_law_many", "_law_digit"]⟩
def d10 : DI := ⟨⟨("_law_great", none), "_law_great", "_law_great", defArgs (top 29), defBody (top 29), defScope (top 29), [], []⟩, ["_law_pot_here"], ["_law_pot_here"]⟩
def d11 : DI := ⟨⟨("_law_bad_blade", none), "_law_bad_blade", "_law_bad_blade", defArgs (top 30), defBody (top 30), defScope (top 30), [], []⟩, ["_law_pot_here"], ["_law_pot_here", "_law_some"]⟩
def d12 : DI := ⟨⟨("_law_bad_side", none), "_law_bad_side", "_law_bad_side", defArgs (top 31), defBody (top 31), defScope (top 31), [], []⟩, ["_law_pot_here", "_law_many"], ["_law_pot_here", "_law_many", "_law_some"]⟩
def d13 : DI := ⟨⟨("_law_bad_weights", none), "_law_bad_weights", "_law_bad_weights", defArgs (top 32), defBody (top 32), defScope (top 32), [], []⟩, ["_law_pot_here", "_law_weights"], ["_law_pot_here", "_law_weights", "_law_way", "_law_bad", "_law_at"]⟩
def d14 : DI := ⟨⟨("_law_kinds", none), "_law_kinds", "_law_kinds", defArgs (top 33), defBody (top 33), defScope (top 33), [], []⟩, ["_law_error"], ["_law_error", "_law_some", "_law_k"]⟩
def d15 : DI := ⟨⟨("_law_told", none), "_law_told", "_law_told", defArgs (top 34), defBody (top 34), defScope (top 34), [], []⟩, ["_law_blade", "_law_weights", "_law_side"], ["_law_blade", "_law_weights", "_law_side", "_law_error", "_law_found"]⟩
def d16 : DI := ⟨⟨("_law_right", none), "_law_right", "_law_right", defArgs (top 35), defBody (top 35), defScope (top 35), [], []⟩, ["_law_pot_here"], ["_law_pot_here", "_law_weights", "_law_bad", "_law_blade", "_law_side", "_law_handed", "_law_due", "_law_kept", "_law_k"]⟩
def d17 : DI := ⟨⟨("law", none), "law", "law", defArgs (top 36), defBody (top 36), defScope (top 36), [], []⟩, ["_law_script"], ["_law_script", "_law_k"]⟩
def L : Ld := ⟨prog, tb, [d0, d1, d2, d3, d4, d5, d6, d7, d8, d9, d10, d11, d12, d13, d14, d15, d16, d17]⟩
theorem okR : L.okR = true := by decide +kernel
theorem okD0 : L.okD 5 0 = true := by decide +kernel
theorem okD1 : L.okD 5 1 = true := by decide +kernel
theorem okD2 : L.okD 5 2 = true := by decide +kernel
theorem okD3 : L.okD 5 3 = true := by decide +kernel
theorem okB : L.okB = true := Ld.okB_of (c := 5) (k := 4) okR (fun i h => match i, h with
  | 0, _ => okD0
  | 1, _ => okD1
  | 2, _ => okD2
  | 3, _ => okD3
  | n + 4, h => absurd h (by omega)) (by decide +kernel)
def loose : List PySem.Str := (["PlateError", "NoBlade", "NoKinds", "NoKind", "NoLying", "NoText", "NoPlate", "NoTree", "NoLaying", "TooLarge", "NoTable", "NoNumber"] : List (PySem.Str)) ++ (["NoWeights", "NoTelling", "is_whole", "is_listed", "MOST_WEIGHTS", "are_weights", "best_first", "loads_of", "lengths_by", "load_of", "_law_cell", "_law_pot"] : List (PySem.Str)) ++ (["_law_draw", "_law_great", "_law_bad_blade", "_law_bad_side", "_law_bad_weights", "_law_kinds", "_law_told", "_law_right"] : List (PySem.Str))
abbrev R : PySem.W.OpenRow := PySem.W.OpenLaw.row PySem.Challenge.rw_platecuts_k62_loads_refused
abbrev hk : PySem.W.Hook := L.hook 5
def ob (s : PySem.W.SharedT) : Bool × He.AlD := L.obs 5 (HandSHeadRun.getT s)
theorem ob_eq (s : PySem.W.SharedT) : ob s = hk.obs s.abs := Ld.obs_eq (HandSHeadRun.getT_eq s)
theorem run (w : World) : HandSHeadRun.RunEq R (PySem.W.view R.prog [36]) hk ob 30000 loose w := by
  intro os
  kernel_rfl
def lawIx : Nat := 216
def fuel : Nat := 200
end Z
set_option maxHeartbeats 4000000
/-! WP: what a run of the evaluator comes to, step by step. -/
namespace PL
open PC
open PySem L2
/-- an equality that simp does not see through -/
theorem nrfl {α : Sort _} {a b : α} (h : a = b) : a = b := h
abbrev QT := T → Store → Prop
abbrev XT := Nat → Store → Prop
/-- a class, so that simp does not look into it -/
class Cn (β : Type) where
  f : β
def wpI {α : Type} (r : R α) [Q : Cn (α → Store → Prop)] [X : Cn XT] : Prop := match r with
  | .ok a st => Q.f a st | .exc c st => X.f c st | .bad => False
def wp {α : Type} (r : R α) (Q : α → Store → Prop) (X : XT) : Prop := @wpI _ r ⟨Q⟩ ⟨X⟩
@[simp ↓ high] theorem wp_def {α : Type} (r : R α) (Q : α → Store → Prop) (X : XT) : wp r Q X = @wpI _ r ⟨Q⟩ ⟨X⟩ := nrfl rfl
def wpSI (r : RS) [N : Cn (Slots → Store → Prop)] [Q : Cn QT] [X : Cn (Nat → Slots → Store → Prop)] : Prop := match r with
  | .nx sl st => N.f sl st | .rt t st => Q.f t st | .exc c sl st => X.f c sl st | .bad => False
def wpS (r : RS) (N : Slots → Store → Prop) (Q : QT) (X : Nat → Slots → Store → Prop) : Prop := @wpSI r ⟨N⟩ ⟨Q⟩ ⟨X⟩
@[simp ↓ high] theorem wpS_def (r : RS) (N : Slots → Store → Prop) (Q : QT) (X : Nat → Slots → Store → Prop) : wpS r N Q X = @wpSI r ⟨N⟩ ⟨Q⟩ ⟨X⟩ := nrfl rfl
/-- no exception -/
def nX : XT := fun _ _ => False
theorem wpQ {α : Type} {r : R α} {Q Q' : α → Store → Prop} {X : XT} (h : ∀ a st, Q a st = Q' a st) : wp r Q X = wp r Q' X := by
  have : Q = Q' := funext fun a => funext (h a)
  rw [this]
theorem wp_mono {α : Type} {r : R α} {Q Q' : α → Store → Prop} {X X' : XT} (h : wp r Q X) (hq : ∀ a st, Q a st → Q' a st) (hx : ∀ c st, X c st → X' c st) : wp r Q' X' := by
  cases r with
  | ok a st => exact hq a st h
  | exc c st => exact hx c st h
  | bad => exact h
theorem wpS_mono {r : RS} {N N' : Slots → Store → Prop} {Q Q' : QT} {X X'} (h : wpS r N Q X) (hn : ∀ sl st, N sl st → N' sl st) (hq : ∀ a st, Q a st → Q' a st) (hx : ∀ c sl st, X c sl st → X' c sl st) : wpS r N' Q' X' := by
  cases r with
  | nx sl st => exact hn sl st h
  | rt a st => exact hq a st h
  | exc c sl st => exact hx c sl st h
  | bad => exact h
/-- a call that lets nothing out -/
theorem wp_call {α : Type} {r : R α} {Q Q' : α → Store → Prop} {X : XT} (h : wp r Q nX) (hq : ∀ a st, Q a st → Q' a st) : wp r Q' X := wp_mono h hq fun _ _ h => h.elim
theorem wp_ex {α : Type} {r : R α} {Q : α → Store → Prop} (h : wp r Q nX) : ∃ a st, r = .ok a st ∧ Q a st := by
  cases r with
  | ok a st => exact ⟨a, st, rfl, h⟩
  | exc c st => exact h.elim
  | bad => exact h.elim
theorem wp_eq {α : Type} {r : R α} {a : α} {st : Store} (h : wp r (fun b st' => b = a ∧ st' = st) nX) : r = .ok a st := by
  obtain ⟨_, _, e, rfl, rfl⟩ := wp_ex h
  exact e
theorem wp_exc_eq {α : Type} {r : R α} {c : Nat} {st : Store} (h : wp r (fun _ _ => False) (fun d st' => d = c ∧ st' = st)) : r = .exc c st := by
  cases r with
  | ok a st => exact h.elim
  | exc d st' => obtain ⟨rfl, rfl⟩ := h; rfl
  | bad => exact h.elim
@[simp] theorem wp_ok {α : Type} {a : α} {st : Store} {Q X} : @wpI _ (.ok a st) ⟨Q⟩ ⟨X⟩ = Q a st := nrfl rfl
@[simp] theorem wp_exc {α : Type} {c : Nat} {st : Store} {Q : α → Store → Prop} {X} : @wpI _ (.exc c st) ⟨Q⟩ ⟨X⟩ = X c st := nrfl rfl
@[simp] theorem wp_bad {α : Type} {Q : α → Store → Prop} {X} : @wpI _ .bad ⟨Q⟩ ⟨X⟩ = False := nrfl rfl
@[simp] theorem wpS_nx {sl st N Q X} : @wpSI (.nx sl st) ⟨N⟩ ⟨Q⟩ ⟨X⟩ = N sl st := nrfl rfl
@[simp] theorem wpS_rt {t st N Q X} : @wpSI (.rt t st) ⟨N⟩ ⟨Q⟩ ⟨X⟩ = Q t st := nrfl rfl
@[simp] theorem wpS_exc {c sl st N Q X} : @wpSI (.exc c sl st) ⟨N⟩ ⟨Q⟩ ⟨X⟩ = X c sl st := nrfl rfl
@[simp] theorem wpS_bad {N Q X} : @wpSI .bad ⟨N⟩ ⟨Q⟩ ⟨X⟩ = False := nrfl rfl
@[simp] theorem nX_eq {c st} : nX c st = False := nrfl rfl
@[simp ↓] theorem wp_bind {α β : Type} (r : R α) (f : α → Store → R β) (Q X) : @wpI _ (r.bind f) ⟨Q⟩ ⟨X⟩ = wp r (fun a st => wp (f a st) Q X) X := by cases r <;> rfl
@[simp ↓] theorem wpS_of {α : Type} (sl : Slots) (r : R α) (f : α → Store → RS) (N Q X) : @wpSI (RS.of sl r f) ⟨N⟩ ⟨Q⟩ ⟨X⟩ = wp r (fun a st => wpS (f a st) N Q X) (fun c st => X c sl st) := by cases r <;> rfl
@[simp ↓] theorem wpS_thn (r : RS) (f) (N Q X) : @wpSI (RS.thn r f) ⟨N⟩ ⟨Q⟩ ⟨X⟩ = wpS r (fun sl st => wpS (f sl st) N Q X) Q X := by cases r <;> rfl
@[simp ↓] theorem wpS_unlock (ks : List Nat) (r : RS) (N Q X) : @wpSI (RS.unlock ks r) ⟨N⟩ ⟨Q⟩ ⟨X⟩ = wpS r (fun sl st => N sl (unlock ks st)) (fun t st => Q t (unlock ks st)) (fun c sl st => X c sl (unlock ks st)) := by cases r <;> rfl
@[simp ↓] theorem wp_fnEnd (n : Nat) (r : RS) (Q X) : @wpI _ (fnEnd n r) ⟨Q⟩ ⟨X⟩ = wpS r (fun _ st => Q .non (st.take n)) (fun t st => wp (leaveT n t st) Q X) (fun c _ st => X c (st.take n)) := by cases r <;> rfl
@[simp ↓] theorem wp_noX {α : Type} (r : R α) (Q : α → Store → Prop) (X) : @wpI _ (noX r) ⟨Q⟩ ⟨X⟩ = wp r Q nX := by cases r <;> rfl
def asOI {α : Type} (o : Option α) [f : Cn (α → Prop)] : Prop := match o with
  | some a => f.f a | none => False
def asO {α : Type} (o : Option α) (f : α → Prop) : Prop := @asOI _ o ⟨f⟩
@[simp ↓ high] theorem asO_def {α : Type} (o : Option α) (f : α → Prop) : asO o f = @asOI _ o ⟨f⟩ := nrfl rfl
@[simp] theorem asO_some {α : Type} {a : α} {f : α → Prop} : @asOI _ (some a) ⟨f⟩ = f a := nrfl rfl
@[simp] theorem asO_none {α : Type} {f : α → Prop} : @asOI _ none ⟨f⟩ = False := nrfl rfl
@[simp ↓] theorem asO_map {α β : Type} {o : Option α} {g : α → β} {f : β → Prop} : @asOI _ (o.map g) ⟨f⟩ = asO o (fun a => f (g a)) := by cases o <;> rfl
@[simp ↓] theorem asO_bind {α β : Type} {o : Option α} {g : α → Option β} {f : β → Prop} : @asOI _ (o.bind g) ⟨f⟩ = asO o (fun a => asO (g a) f) := by cases o <;> rfl
@[simp ↓] theorem wp_of {α : Type} (o : Option α) (st : Store) (Q : α → Store → Prop) (X) : @wpI _ (R.of o st) ⟨Q⟩ ⟨X⟩ = asO o (fun a => Q a st) := by
  cases o <;> simp [R.of]
@[simp ↓ low] theorem wp_ite {α : Type} (c : Prop) [Decidable c] (a b : R α) (Q X) : @wpI _ (if c then a else b) ⟨Q⟩ ⟨X⟩ = ((c → wp a Q X) ∧ (¬c → wp b Q X)) := by
  split <;> simp [*]
@[simp ↓] theorem wp_ite_bad {α : Type} (c : Prop) [Decidable c] (a : R α) (Q X) : @wpI _ (if c then a else .bad) ⟨Q⟩ ⟨X⟩ = (c ∧ wp a Q X) := by
  split <;> simp [*]
/-! ### the evaluator, step by step -/
def asBI (x : T) [f : Cn (Bool → Prop)] : Prop := match x with
  | .bl b => f.f b | _ => False
def asB (x : T) (f : Bool → Prop) : Prop := @asBI x ⟨f⟩
@[simp ↓ high] theorem asB_def (x : T) (f : Bool → Prop) : asB x f = @asBI x ⟨f⟩ := nrfl rfl
@[simp] theorem asB_bl {b f} : @asBI (.bl b) ⟨f⟩ = f b := nrfl rfl
def brI (b : Bool) [p : Cn Prop] [q : Cn Prop] : Prop := (b = true → p.f) ∧ (b = false → q.f)
def br (b : Bool) (p q : Prop) : Prop := @brI b ⟨p⟩ ⟨q⟩
@[simp ↓ high] theorem br_def (b : Bool) (p q : Prop) : br b p q = @brI b ⟨p⟩ ⟨q⟩ := nrfl rfl
@[simp] theorem br_true {p q} : @brI true ⟨p⟩ ⟨q⟩ = p := by simp [brI]
@[simp] theorem br_false {p q} : @brI false ⟨p⟩ ⟨q⟩ = q := by simp [brI]
@[simp] theorem br_not {b p q} : @brI (!b) ⟨p⟩ ⟨q⟩ = br b q p := by cases b <;> simp
@[simp] theorem br_decide {c : Prop} [Decidable c] {p q} : @brI (decide c) ⟨p⟩ ⟨q⟩ = ((c → p) ∧ (¬ c → q)) := by simp [brI]
def varT (o : Option (Option T)) (st : Store) : R T := match o with
  | some (some t) => .ok t st
  | _ => .bad
@[simp] theorem varT_some {t st} : varT (some (some t)) st = .ok t st := nrfl rfl
section
variable (P : Prog) (cl : Nat → List T → Store → R T) (sl : Slots) (st : Store) (Q : QT) (X : XT)
@[simp ↓] theorem w_lit (t : T) : @wpI _ (evE P cl (.lit t) sl st) ⟨Q⟩ ⟨X⟩ = Q t st := nrfl rfl
@[simp ↓] theorem w_glb (x : Str) (t : T) : @wpI _ (evE P cl (.glb x t) sl st) ⟨Q⟩ ⟨X⟩ = Q t st := nrfl rfl
@[simp ↓] theorem w_nop : @wpI _ (evE P cl .nop sl st) ⟨Q⟩ ⟨X⟩ = Q .non st := nrfl rfl
@[simp ↓] theorem w_var (i : Nat) : @wpI _ (evE P cl (.var i) sl st) ⟨Q⟩ ⟨X⟩ = wp (varT sl[i]? st) Q X := by
  simp only [evE]; rfl
@[simp ↓] theorem w_bin (op a b) : @wpI _ (evE P cl (.bin op a b) sl st) ⟨Q⟩ ⟨X⟩ = wp (evE P cl a sl st) (fun x st => wp (evE P cl b sl st) (fun y st => wp (binop op x y st) Q X) X) X := by
  simp only [evE]; (repeat' first | with_reducible rfl | (simp only [↓wp_def, ↓wpS_def, ↓asO_def, ↓asB_def, ↓br_def, wp_bind, wp_ite_bad, wp_ok, wpS_of, wpS_nx, wpS_rt, wpS_unlock]) | (refine wpQ fun _ _ => ?_))
def negT : T → Store → R T
  | .int i, st => .ok (.int (-i)) st
  | _, _ => .bad
@[simp ↓] theorem w_neg (a) : @wpI _ (evE P cl (.neg a) sl st) ⟨Q⟩ ⟨X⟩ = wp (evE P cl a sl st) (fun x st => wp (negT x st) Q X) X := by
  simp only [↓wp_def, ↓wpS_def, ↓asO_def, ↓asB_def, ↓br_def, evE, wp_bind]; refine wpQ fun x st => ?_; cases x <;> rfl
@[simp ↓] theorem w_not (a) : @wpI _ (evE P cl (.not a) sl st) ⟨Q⟩ ⟨X⟩ = wp (evE P cl a sl st) (fun x st => asB x fun b => Q (.bl (!b)) st) X := by
  simp only [↓wp_def, ↓wpS_def, ↓asO_def, ↓asB_def, ↓br_def, evE, wp_bind]; refine wpQ fun x st => ?_; cases x <;> rfl
@[simp ↓] theorem w_cmp (op a b) : @wpI _ (evE P cl (.cmp op a b) sl st) ⟨Q⟩ ⟨X⟩ = wp (evE P cl a sl st) (fun x st => wp (evE P cl b sl st) (fun y st => wp (cmpop op x y st) Q X) X) X := by
  simp only [evE]; (repeat' first | with_reducible rfl | (simp only [↓wp_def, ↓wpS_def, ↓asO_def, ↓asB_def, ↓br_def, wp_bind, wp_ite_bad, wp_ok, wpS_of, wpS_nx, wpS_rt, wpS_unlock]) | (refine wpQ fun _ _ => ?_))
@[simp ↓] theorem w_chain (op op' a b c) : @wpI _ (evE P cl (.chain op op' a b c) sl st) ⟨Q⟩ ⟨X⟩ = wp (evE P cl a sl st) (fun x st => wp (evE P cl b sl st) (fun y st => asO (icmp op x y) fun q => br q (wp (evE P cl c sl st) (fun z st => asO (icmp op' y z) fun r => Q (.bl r) st) X) (Q (.bl false) st)) X) X := by
  simp only [↓wp_def, ↓wpS_def, ↓asO_def, ↓asB_def, ↓br_def, evE, wp_bind]; refine wpQ fun x st => ?_; simp only [↓wp_def, ↓wpS_def, ↓asO_def, ↓asB_def, ↓br_def, wp_bind]; refine wpQ fun y st => ?_
  cases icmp op x y with
  | none => simp
  | some q =>
    cases q
    · simp
    · simp only [↓wp_def, ↓wpS_def, ↓asO_def, ↓asB_def, ↓br_def, wp_bind, asO_some, br_true]
      refine wpQ fun z st => ?_
      cases icmp op' y z <;> simp
@[simp ↓] theorem w_and (a b) : @wpI _ (evE P cl (.and a b) sl st) ⟨Q⟩ ⟨X⟩ = wp (evE P cl a sl st) (fun x st => asB x fun q => br q (wp (evE P cl b sl st) Q X) (Q (.bl false) st)) X := by
  simp only [↓wp_def, ↓wpS_def, ↓asO_def, ↓asB_def, ↓br_def, evE, wp_bind]; refine wpQ fun x st => ?_; cases x <;> first | rfl | (rename_i q; cases q <;> simp)
@[simp ↓] theorem w_or (a b) : @wpI _ (evE P cl (.or a b) sl st) ⟨Q⟩ ⟨X⟩ = wp (evE P cl a sl st) (fun x st => asB x fun q => br q (Q (.bl true) st) (wp (evE P cl b sl st) Q X)) X := by
  simp only [↓wp_def, ↓wpS_def, ↓asO_def, ↓asB_def, ↓br_def, evE, wp_bind]; refine wpQ fun x st => ?_; cases x <;> first | rfl | (rename_i q; cases q <;> simp)
@[simp ↓] theorem w_ife (c a b) : @wpI _ (evE P cl (.ife c a b) sl st) ⟨Q⟩ ⟨X⟩ = wp (evE P cl c sl st) (fun x st => asB x fun q => br q (wp (evE P cl a sl st) Q X) (wp (evE P cl b sl st) Q X)) X := by
  simp only [↓wp_def, ↓wpS_def, ↓asO_def, ↓asB_def, ↓br_def, evE, wp_bind]; refine wpQ fun x st => ?_; cases x <;> first | rfl | (rename_i q; cases q <;> simp)
@[simp ↓] theorem w_tup (es) : @wpI _ (evE P cl (.tup es) sl st) ⟨Q⟩ ⟨X⟩ = wp (evEs P cl es sl st) (fun xs st => wp (fzsR xs st) (fun xs st => lenOk xs.length = true ∧ Q (.nd .tup .fz xs) st) X) X := by
  simp only [evE]; (repeat' first | with_reducible rfl | (simp only [↓wp_def, ↓wpS_def, ↓asO_def, ↓asB_def, ↓br_def, wp_bind, wp_ite_bad, wp_ok, wpS_of, wpS_nx, wpS_rt, wpS_unlock]) | (refine wpQ fun _ _ => ?_))
@[simp ↓] theorem w_tupX (es) : @wpI _ (evE P cl (.tupX es) sl st) ⟨Q⟩ ⟨X⟩ = wp (evEs P cl es sl st) (fun xs st => lenOk xs.length = true ∧ Q (.nd .tup .opn xs) st) X := by
  simp only [evE]; (repeat' first | with_reducible rfl | (simp only [↓wp_def, ↓wpS_def, ↓asO_def, ↓asB_def, ↓br_def, wp_bind, wp_ite_bad, wp_ok, wpS_of, wpS_nx, wpS_rt, wpS_unlock]) | (refine wpQ fun _ _ => ?_))
@[simp ↓] theorem w_lst (es) : @wpI _ (evE P cl (.lst es) sl st) ⟨Q⟩ ⟨X⟩ = wp (evEs P cl es sl st) (fun xs st => wp (fzsR xs st) (fun xs st => lenOk xs.length = true ∧ Q (.nd .lst .own xs) st) X) X := by
  simp only [evE]; (repeat' first | with_reducible rfl | (simp only [↓wp_def, ↓wpS_def, ↓asO_def, ↓asB_def, ↓br_def, wp_bind, wp_ite_bad, wp_ok, wpS_of, wpS_nx, wpS_rt, wpS_unlock]) | (refine wpQ fun _ _ => ?_))
@[simp ↓] theorem w_lstX (es) : @wpI _ (evE P cl (.lstX es) sl st) ⟨Q⟩ ⟨X⟩ = wp (evEs P cl es sl st) (fun xs st => lenOk xs.length = true ∧ Q (.nd .lst .opn xs) st) X := by
  simp only [evE]; (repeat' first | with_reducible rfl | (simp only [↓wp_def, ↓wpS_def, ↓asO_def, ↓asB_def, ↓br_def, wp_bind, wp_ite_bad, wp_ok, wpS_of, wpS_nx, wpS_rt, wpS_unlock]) | (refine wpQ fun _ _ => ?_))
@[simp ↓] theorem w_dic0 : @wpI _ (evE P cl (.dic .nil .nil) sl st) ⟨Q⟩ ⟨X⟩ = Q (.nd (.dic []) .own []) st := by simp only [evE]; rfl
@[simp ↓] theorem w_dis (k v) : @wpI _ (evE P cl (.dis k v) sl st) ⟨Q⟩ ⟨X⟩ = wp (evE P cl k sl st) (fun x st => wp (evE P cl v sl st) (fun y st => wp (fzR y st) (fun y st => wp (disT x y st) Q X) X) X) X := by
  simp only [evE]; (repeat' first | with_reducible rfl | (simp only [↓wp_def, wp_bind]) | (refine wpQ fun _ _ => ?_))
def lrngT : T → Store → R T
  | .int j, st => if rngW 0 j then .ok (.nd .lst .own (rngT 0 j.toNat)) st else .bad
  | _, _ => .bad
@[simp ↓] theorem w_lrng (a) : @wpI _ (evE P cl (.lrng a) sl st) ⟨Q⟩ ⟨X⟩ = wp (evE P cl a sl st) (fun x st => wp (lrngT x st) Q X) X := by
  simp only [↓wp_def, evE, wp_bind]; refine wpQ fun x st => ?_; cases x <;> rfl
@[simp ↓] theorem w_lrngT (j : Int) : @wpI _ (lrngT (.int j) st) ⟨Q⟩ ⟨X⟩ = (rngW 0 j = true ∧ Q (.nd .lst .own (rngT 0 j.toNat)) st) := by
  simp only [↓wp_def, lrngT, wp_ite_bad, wp_ok]
@[simp ↓] theorem w_back (a) : @wpI _ (evE P cl (.back a) sl st) ⟨Q⟩ ⟨X⟩ = wp (evE P cl a sl st) (fun x st => wp (backT x st) Q X) X := by
  simp only [evE]; (repeat' first | with_reducible rfl | (simp only [↓wp_def, wp_bind]) | (refine wpQ fun _ _ => ?_))
@[simp ↓] theorem w_minD (a) : @wpI _ (evE P cl (.minD a) sl st) ⟨Q⟩ ⟨X⟩ = wp (evE P cl a sl st) (fun x st => wp (minDT x st) Q X) X := by
  simp only [evE]; (repeat' first | with_reducible rfl | (simp only [↓wp_def, wp_bind]) | (refine wpQ fun _ _ => ?_))
@[simp ↓] theorem w_idx (a b) : @wpI _ (evE P cl (.idx a b) sl st) ⟨Q⟩ ⟨X⟩ = wp (evE P cl a sl st) (fun x st => wp (evE P cl b sl st) (fun y st => wp (idxT x y st) Q X) X) X := by
  simp only [evE]; (repeat' first | with_reducible rfl | (simp only [↓wp_def, ↓wpS_def, ↓asO_def, ↓asB_def, ↓br_def, wp_bind, wp_ite_bad, wp_ok, wpS_of, wpS_nx, wpS_rt, wpS_unlock]) | (refine wpQ fun _ _ => ?_))
@[simp ↓] theorem w_slc (a lo hi) : @wpI _ (evE P cl (.slc a lo hi) sl st) ⟨Q⟩ ⟨X⟩ = wp (evE P cl a sl st) (fun x st => wp (evE P cl lo sl st) (fun l st => asO (partOf (isNop lo) l) fun l' => wp (evE P cl hi sl st) (fun h st => asO (partOf (isNop hi) h) fun h' => wp (slcT x l' h' st) Q X) X) X) X := by
  simp only [↓wp_def, ↓wpS_def, ↓asO_def, ↓asB_def, ↓br_def, evE, wp_bind]; refine wpQ fun x st => ?_; simp only [↓wp_def, ↓wpS_def, ↓asO_def, ↓asB_def, ↓br_def, wp_bind]; refine wpQ fun l st => ?_
  cases partOf (isNop lo) l with
  | none => simp
  | some l' =>
    simp only [↓wp_def, ↓wpS_def, ↓asO_def, ↓asB_def, ↓br_def, asO_some, wp_bind]
    refine wpQ fun h st => ?_
    cases partOf (isNop hi) h <;> simp
@[simp ↓] theorem w_callE (f es) : @wpI _ (evE P cl (.call f es) sl st) ⟨Q⟩ ⟨X⟩ = wp (evEs P cl es sl st) (fun xs st => wp (fzasR xs st) (fun xs st => wp (cl f xs st) Q X) X) X := by
  simp only [evE]; (repeat' first | with_reducible rfl | (simp only [↓wp_def, ↓wpS_def, ↓asO_def, ↓asB_def, ↓br_def, wp_bind, wp_ite_bad, wp_ok, wpS_of, wpS_nx, wpS_rt, wpS_unlock]) | (refine wpQ fun _ _ => ?_))
@[simp ↓] theorem w_make (c es) : @wpI _ (evE P cl (.make c es) sl st) ⟨Q⟩ ⟨X⟩ = asO (P.inits.lookup c) fun f => wp (evEs P cl es sl st) (fun xs st => wp (fzasR xs st) (fun xs st => wp (cl (mkBase + f) (.ref st.length :: xs) (st ++ [.nd (.obj c []) .own []])) (fun r st' => r = .non ∧ wp (madeT st.length st') Q X) X) X) X := by
  simp only [evE]
  cases P.inits.lookup c with
  | none => rfl
  | some f =>
    simp only [↓wp_def, ↓wpS_def, ↓asO_def, ↓asB_def, ↓br_def, wp_bind, asO_some]
    refine wpQ fun xs st => ?_; simp only [↓wp_def, ↓wpS_def, ↓asO_def, ↓asB_def, ↓br_def, wp_bind]; refine wpQ fun xs st => ?_; simp only [↓wp_def, ↓wpS_def, ↓asO_def, ↓asB_def, ↓br_def, wp_bind]; refine wpQ fun r st' => ?_
    cases r <;> simp
@[simp ↓] theorem w_meth (m o es) : @wpI _ (evE P cl (.meth m o es) sl st) ⟨Q⟩ ⟨X⟩ = wp (evE P cl o sl st) (fun x st => wp (fzaR x st) (fun x st => asO (classOf st x) fun c => asO (P.meths.lookup (c, m)) fun f => wp (evEs P cl es sl st) (fun xs st => wp (fzasR xs st) (fun xs st => wp (cl f (x :: xs) st) Q X) X) X) X) X := by
  simp only [↓wp_def, ↓wpS_def, ↓asO_def, ↓asB_def, ↓br_def, evE, wp_bind]; refine wpQ fun x st => ?_; simp only [↓wp_def, ↓wpS_def, ↓asO_def, ↓asB_def, ↓br_def, wp_bind]; refine wpQ fun x st => ?_
  cases classOf st x with
  | none => simp
  | some c =>
    simp only [↓wp_def, ↓wpS_def, ↓asO_def, ↓asB_def, ↓br_def, asO_some]
    cases P.meths.lookup (c, m) with
    | none => simp
    | some f => simp only [↓wp_def, ↓wpS_def, ↓asO_def, ↓asB_def, ↓br_def, asO_some]; (repeat' first | with_reducible rfl | (simp only [↓wp_def, ↓wpS_def, ↓asO_def, ↓asB_def, ↓br_def, wp_bind, wp_ite_bad, wp_ok, wpS_of, wpS_nx, wpS_rt, wpS_unlock]) | (refine wpQ fun _ _ => ?_))
@[simp ↓] theorem w_fld (o f) : @wpI _ (evE P cl (.fld o f) sl st) ⟨Q⟩ ⟨X⟩ = wp (evE P cl o sl st) (fun x st => wp (fldT x f st) Q X) X := by
  simp only [evE]; (repeat' first | with_reducible rfl | (simp only [↓wp_def, ↓wpS_def, ↓asO_def, ↓asB_def, ↓br_def, wp_bind, wp_ite_bad, wp_ok, wpS_of, wpS_nx, wpS_rt, wpS_unlock]) | (refine wpQ fun _ _ => ?_))
@[simp ↓] theorem w_bi (b es) : @wpI _ (evE P cl (.bi b es) sl st) ⟨Q⟩ ⟨X⟩ = wp (evEs P cl es sl st) (fun xs st => wp (biop b xs st) Q X) X := by
  simp only [evE]; (repeat' first | with_reducible rfl | (simp only [↓wp_def, ↓wpS_def, ↓asO_def, ↓asB_def, ↓br_def, wp_bind, wp_ite_bad, wp_ok, wpS_of, wpS_nx, wpS_rt, wpS_unlock]) | (refine wpQ fun _ _ => ?_))
@[simp ↓] theorem w_isi (a cs) : @wpI _ (evE P cl (.isi a cs) sl st) ⟨Q⟩ ⟨X⟩ = wp (evE P cl a sl st) (fun x st => asO (isTys P st x cs) fun b => Q (.bl b) st) X := by
  simp only [↓wp_def, ↓wpS_def, ↓asO_def, ↓asB_def, ↓br_def, evE, wp_bind]; refine wpQ fun x st => ?_; cases isTys P st x cs <;> simp
@[simp ↓] theorem w_bm (m o es) (hm : bmOk m = true) : @wpI _ (evE P cl (.bm m o es) sl st) ⟨Q⟩ ⟨X⟩ = wp (evE P cl o sl st) (fun x st => isLst st x = true ∧ wp (evEs P cl es sl st) (fun xs st => wp (bmR m x xs st) Q X) X) X := by
  simp only [evE, hm, if_true]; (repeat' first | with_reducible rfl | (simp only [↓wp_def, ↓wpS_def, ↓asO_def, ↓asB_def, ↓br_def, wp_bind, wp_ite_bad, wp_ok, wpS_of, wpS_nx, wpS_rt, wpS_unlock]) | (refine wpQ fun _ _ => ?_))
@[simp ↓] theorem w_bs (m o es) (hm : bmOk m = false) (hs : bsOk m = true) : @wpI _ (evE P cl (.bm m o es) sl st) ⟨Q⟩ ⟨X⟩ = wp (evE P cl o sl st) (fun x st => isStrT x = true ∧ wp (evEs P cl es sl st) (fun xs st => wp (bsR m x xs st) Q X) X) X := by
  simp only [evE, hm, hs, if_true, if_false, Bool.false_eq_true]; (repeat' first | with_reducible rfl | (simp only [↓wp_def, ↓wpS_def, ↓asO_def, ↓asB_def, ↓br_def, wp_bind, wp_ite_bad, wp_ok, wpS_of, wpS_nx, wpS_rt, wpS_unlock]) | (refine wpQ fun _ _ => ?_))
@[simp ↓] theorem w_bd (m o es) (hm : bmOk m = false) (hs : bsOk m = false) (hd : bdOk m = true) : @wpI _ (evE P cl (.bm m o es) sl st) ⟨Q⟩ ⟨X⟩ = wp (evE P cl o sl st) (fun x st => dicB st x = true ∧ wp (evEs P cl es sl st) (fun xs st => wp (bdR m x xs st) Q X) X) X := by
  simp only [evE, hm, hs, hd, if_true, if_false, Bool.false_eq_true]; (repeat' first | with_reducible rfl | (simp only [↓wp_def, ↓wpS_def, ↓asO_def, ↓asB_def, ↓br_def, wp_bind, wp_ite_bad, wp_ok, wpS_of, wpS_nx, wpS_rt, wpS_unlock]) | (refine wpQ fun _ _ => ?_))
@[simp ↓] theorem w_comp (elt x tg it c) : @wpI _ (evE P cl (.comp elt x tg it c) sl st) ⟨Q⟩ ⟨X⟩ = wp (evIt P cl it sl st) (fun w st => lenOk w.1.length = true ∧ wp (compGo (compF (evE P cl c) (evE P cl elt) x tg (wipeS sl tg.vars)) w.1 st) (fun ys st => Q (.nd .lst (if x then .opn else .own) ys) (unlock w.2 st)) X) X := by
  simp only [evE]; (repeat' first | with_reducible rfl | (simp only [↓wp_def, ↓wpS_def, ↓asO_def, ↓asB_def, ↓br_def, wp_bind, wp_ite_bad, wp_ok, wpS_of, wpS_nx, wpS_rt, wpS_unlock]) | (refine wpQ fun _ _ => ?_)); rfl
@[simp ↓] theorem w_keep (d e) : @wpI _ (evE P cl (.keep d e) sl st) ⟨Q⟩ ⟨X⟩ = wp (evE P cl e sl st) (fun x st => asO (kp d x st) fun y => Q y.1 y.2) X := by
  simp only [↓wp_def, ↓wpS_def, ↓asO_def, ↓asB_def, ↓br_def, evE, wp_bind]; refine wpQ fun x st => ?_; cases kp d x st <;> simp
@[simp ↓] theorem w_nil (Q : List T → Store → Prop) : @wpI _ (evEs P cl .nil sl st) ⟨Q⟩ ⟨X⟩ = Q [] st := nrfl rfl
@[simp ↓] theorem w_cons (e es) (Q : List T → Store → Prop) : @wpI _ (evEs P cl (.cons e es) sl st) ⟨Q⟩ ⟨X⟩ = wp (evE P cl e sl st) (fun x st => wp (evEs P cl es sl st) (fun xs st => Q (x :: xs) st) X) X := by
  simp only [evEs]; (repeat' first | with_reducible rfl | (simp only [↓wp_def, ↓wpS_def, ↓asO_def, ↓asB_def, ↓br_def, wp_bind, wp_ite_bad, wp_ok, wpS_of, wpS_nx, wpS_rt, wpS_unlock]) | (refine wpQ fun _ _ => ?_))
@[simp ↓] theorem w_seq (e) (Q : List T × List Nat → Store → Prop) : @wpI _ (evIt P cl (.seq e) sl st) ⟨Q⟩ ⟨X⟩ = wp (evE P cl e sl st) (fun x st => wp (seqW x st) Q X) X := by
  simp only [↓wp_def, evIt, wp_bind]
@[simp ↓] theorem w_seqW {x : T} (h : isStrT x = false) (hd : dicB st x = false) (Q : List T × List Nat → Store → Prop) : @wpI _ (seqW x st) ⟨Q⟩ ⟨X⟩ = asO (walked x st) fun w => Q (w.1, w.2.2.1) w.2.2.2 := by
  cases x <;> first | (cases h; done) | skip
  all_goals
    simp only [seqW, hd]
    generalize walked _ st = z
    cases z with
    | none => simp
    | some w => obtain ⟨a, b, c, d⟩ := w; simp
@[simp ↓] theorem w_seqD {x : T} (hd : dicB st x = true) (Q : List T × List Nat → Store → Prop) : @wpI _ (seqW x st) ⟨Q⟩ ⟨X⟩ = asO (walkD x st) fun w => Q (w.1, w.2.1) w.2.2 := by
  cases x <;> first | (cases hd; done) | skip
  all_goals
    simp only [seqW, hd, if_true]
    generalize walkD _ st = z
    cases z with
    | none => simp
    | some w => obtain ⟨a, b, c⟩ := w; simp
@[simp ↓] theorem w_seqS {z : Str} (Q : List T × List Nat → Store → Prop) : @wpI _ (seqW (.str z) st) ⟨Q⟩ ⟨X⟩ = Q (charsT z, []) st := nrfl rfl
def rng1T : T → Store → R (List T × List Nat)
  | .int j, st => if rngOk 0 j then .ok (rngT 0 j.toNat, []) st else .bad
  | _, _ => .bad
def rng3T : T → T → T → Store → R (List T × List Nat)
  | .int i, .int j, .int k, st => if decide (k = -1) && rngW j i then .ok (dnT i (i - j).toNat, []) st else .bad
  | _, _, _, _ => .bad
def rng2T : T → T → Store → R (List T × List Nat)
  | .int i, .int j, st => if rngOk i j then .ok (rngT i (j - i).toNat, []) st else .bad
  | _, _, _ => .bad
@[simp ↓] theorem w_rng1 (e) (Q : List T × List Nat → Store → Prop) : @wpI _ (evIt P cl (.rng1 e) sl st) ⟨Q⟩ ⟨X⟩ = wp (evE P cl e sl st) (fun x st => wp (rng1T x st) Q X) X := by
  simp only [↓wp_def, ↓wpS_def, ↓asO_def, ↓asB_def, ↓br_def, evIt, wp_bind]; refine wpQ fun x st => ?_; cases x <;> rfl
@[simp ↓] theorem w_rng2 (a b) (Q : List T × List Nat → Store → Prop) : @wpI _ (evIt P cl (.rng2 a b) sl st) ⟨Q⟩ ⟨X⟩ = wp (evE P cl a sl st) (fun x st => wp (evE P cl b sl st) (fun y st => wp (rng2T x y st) Q X) X) X := by
  simp only [↓wp_def, ↓wpS_def, ↓asO_def, ↓asB_def, ↓br_def, evIt, wp_bind]; refine wpQ fun x st => ?_; simp only [↓wp_def, ↓wpS_def, ↓asO_def, ↓asB_def, ↓br_def, wp_bind]; refine wpQ fun y st => ?_; cases x <;> cases y <;> rfl
@[simp ↓] theorem w_rng3 (a b c) (Q : List T × List Nat → Store → Prop) : @wpI _ (evIt P cl (.rng3 a b c) sl st) ⟨Q⟩ ⟨X⟩ = wp (evE P cl a sl st) (fun x st => wp (evE P cl b sl st) (fun y st => wp (evE P cl c sl st) (fun z st => wp (rng3T x y z st) Q X) X) X) X := by
  simp only [↓wp_def, ↓wpS_def, ↓asO_def, ↓asB_def, ↓br_def, evIt, wp_bind]; refine wpQ fun x st => ?_; simp only [↓wp_def, ↓wpS_def, ↓asO_def, ↓asB_def, ↓br_def, wp_bind]; refine wpQ fun y st => ?_; simp only [↓wp_def, ↓wpS_def, ↓asO_def, ↓asB_def, ↓br_def, wp_bind]; refine wpQ fun z st => ?_; cases x <;> cases y <;> cases z <;> rfl
@[simp ↓] theorem w_rng3T (i j : Int) (Q : List T × List Nat → Store → Prop) : @wpI _ (rng3T (.int i) (.int j) (.int (-1)) st) ⟨Q⟩ ⟨X⟩ = (rngW j i = true ∧ Q (dnT i (i - j).toNat, []) st) := by
  simp only [↓wp_def, ↓wpS_def, ↓asO_def, ↓asB_def, ↓br_def, rng3T, wp_ite_bad, wp_ok, decide_true, Bool.true_and]
@[simp ↓] theorem w_enum (e) (Q : List T × List Nat → Store → Prop) : @wpI _ (evIt P cl (.enum e) sl st) ⟨Q⟩ ⟨X⟩ = wp (evE P cl e sl st) (fun x st => listB st x = true ∧ asO (walked x st) fun w => Q (enumT w.2.1 0 w.1, w.2.2.1) w.2.2.2) X := by
  simp only [↓wp_def, ↓wpS_def, ↓asO_def, ↓asB_def, ↓br_def, evIt, wp_bind, wp_ite_bad]; refine wpQ fun x st => ?_; cases walked x st with
  | none => simp
  | some w => obtain ⟨a, b, c, d⟩ := w; simp
@[simp ↓] theorem w_rev (e) (Q : List T × List Nat → Store → Prop) : @wpI _ (evIt P cl (.rev e) sl st) ⟨Q⟩ ⟨X⟩ = wp (evE P cl e sl st) (fun x st => (listB st x || tupB st x) = true ∧ asO (walked x st) fun w => Q (w.1.reverse, w.2.2.1) w.2.2.2) X := by
  simp only [↓wp_def, ↓wpS_def, ↓asO_def, ↓asB_def, ↓br_def, evIt, wp_bind, wp_ite_bad]; refine wpQ fun x st => ?_; cases walked x st with
  | none => simp
  | some w => obtain ⟨a, b, c, d⟩ := w; simp
@[simp ↓] theorem w_zip2 (a b) (Q : List T × List Nat → Store → Prop) : @wpI _ (evIt P cl (.zip2 a b) sl st) ⟨Q⟩ ⟨X⟩ = wp (evE P cl a sl st) (fun x st => wp (evE P cl b sl st) (fun y st => ((listB st x && listB st y) || (tupB st x && tupB st y) || (tupB st x && listB st y)) = true ∧ asO (walked x st) fun w => asO (walked y w.2.2.2) fun z => Q (zipT (w.2.1 && z.2.1) w.1 z.1, w.2.2.1 ++ z.2.2.1) z.2.2.2) X) X := by
  simp only [↓wp_def, ↓wpS_def, ↓asO_def, ↓asB_def, ↓br_def, evIt, wp_bind, wp_ite_bad]; refine wpQ fun x st => ?_; simp only [↓wp_def, ↓wpS_def, ↓asO_def, ↓asB_def, ↓br_def, wp_bind]; refine wpQ fun y st => ?_; simp only [↓wp_def, ↓wpS_def, ↓asO_def, ↓asB_def, ↓br_def, wp_ite_bad]; congr 1
  cases walked x st with
  | none => simp
  | some w =>
    obtain ⟨a, b, c, d⟩ := w
    simp only [↓wp_def, ↓wpS_def, ↓asO_def, ↓asB_def, ↓br_def, asO_some]
    cases walked y d with
    | none => simp
    | some z => obtain ⟨a, b, c, d⟩ := z; simp
@[simp ↓] theorem w_zip3 (a b d) (Q : List T × List Nat → Store → Prop) : @wpI _ (evIt P cl (.zip3 a b d) sl st) ⟨Q⟩ ⟨X⟩ = wp (evE P cl a sl st) (fun x st => wp (evE P cl b sl st) (fun y st => wp (evE P cl d sl st) (fun z st => ((listB st x && listB st y && listB st z) || (tupB st x && tupB st y && tupB st z)) = true ∧ asO (walked x st) fun w => asO (walked y w.2.2.2) fun v => asO (walked z v.2.2.2) fun u => Q (zip3T (w.2.1 && v.2.1 && u.2.1) w.1 v.1 u.1, w.2.2.1 ++ v.2.2.1 ++ u.2.2.1) u.2.2.2) X) X) X := by
  simp only [↓wp_def, ↓wpS_def, ↓asO_def, ↓asB_def, ↓br_def, evIt, wp_bind, wp_ite_bad]; refine wpQ fun x st => ?_; simp only [↓wp_def, ↓wpS_def, ↓asO_def, ↓asB_def, ↓br_def, wp_bind]; refine wpQ fun y st => ?_; simp only [↓wp_def, ↓wpS_def, ↓asO_def, ↓asB_def, ↓br_def, wp_bind]; refine wpQ fun z st => ?_; simp only [↓wp_def, ↓wpS_def, ↓asO_def, ↓asB_def, ↓br_def, wp_ite_bad]; congr 1
  cases walked x st with
  | none => simp
  | some w =>
    obtain ⟨a, b, c, d⟩ := w
    simp only [↓wp_def, ↓wpS_def, ↓asO_def, ↓asB_def, ↓br_def, asO_some]
    cases walked y d with
    | none => simp
    | some z1 =>
      obtain ⟨a, b, c, d⟩ := z1
      simp only [↓wp_def, ↓wpS_def, ↓asO_def, ↓asB_def, ↓br_def, asO_some]
      cases walked z d with
      | none => simp
      | some z => obtain ⟨a, b, c, d⟩ := z; simp
@[simp ↓] theorem w_compF (ec ee : Slots → Store → R T) (x tg t) (Q : Option T → Store → Prop) : @wpI _ (compF ec ee x tg sl t st) ⟨Q⟩ ⟨X⟩ = asO (bindT st tg t sl) fun sl => wp (ec sl st) (fun b st => asB b fun q => br q (wp (ee sl st) (fun y st => wp (compP x y st) Q X) nX) (Q none st)) nX := by
  unfold compF
  cases bindT st tg t sl with
  | none => rfl
  | some sl =>
    simp only [↓wp_def, ↓wpS_def, ↓asO_def, ↓asB_def, ↓br_def, wp_bind, wp_noX, asO_some]
    cases e : ec sl st with
    | ok b st1 =>
      simp only [↓wp_def, ↓wpS_def, ↓asO_def, ↓asB_def, ↓br_def, wp_ok]
      cases b <;> try rfl
      rename_i q
      cases q
      · simp [compB]
      · simp only [↓wp_def, ↓wpS_def, ↓asO_def, ↓asB_def, ↓br_def, compB, wp_bind, wp_noX, asB_bl, br_true]
    | exc c st1 => rfl
    | bad => rfl
@[simp ↓] theorem w_rng1T (j : Int) (Q : List T × List Nat → Store → Prop) : @wpI _ (rng1T (.int j) st) ⟨Q⟩ ⟨X⟩ = (rngOk 0 j = true ∧ Q (rngT 0 j.toNat, []) st) := by
  simp only [↓wp_def, ↓wpS_def, ↓asO_def, ↓asB_def, ↓br_def, rng1T, wp_ite_bad, wp_ok]
@[simp ↓] theorem w_rng2T (i j : Int) (Q : List T × List Nat → Store → Prop) : @wpI _ (rng2T (.int i) (.int j) st) ⟨Q⟩ ⟨X⟩ = (rngOk i j = true ∧ Q (rngT i (j - i).toNat, []) st) := by
  simp only [↓wp_def, ↓wpS_def, ↓asO_def, ↓asB_def, ↓br_def, rng2T, wp_ite_bad, wp_ok]
variable (N : Slots → Store → Prop) (Y : Nat → Slots → Store → Prop)
@[simp ↓] theorem w_forF (b : Slots → Store → RS) (tg t) : @wpSI (forF b tg t sl st) ⟨N⟩ ⟨Q⟩ ⟨Y⟩ = asO (bindT st tg t sl) fun sl => wpS (b sl st) N Q Y := by
  unfold forF; cases bindT st tg t sl <;> rfl
@[simp ↓] theorem w_asg (i e) : @wpSI (evS P cl (.asg (.name i) e) sl st) ⟨N⟩ ⟨Q⟩ ⟨Y⟩ = wp (evE P cl e sl st) (fun x st => wp (fzaR x st) (fun x st => N (sl.set i (some x)) st) (fun c st => Y c sl st)) (fun c st => Y c sl st) := by
  simp only [evS]; (repeat' first | with_reducible rfl | (simp only [↓wp_def, ↓wpS_def, ↓asO_def, ↓asB_def, ↓br_def, wp_bind, wp_ite_bad, wp_ok, wpS_of, wpS_nx, wpS_rt, wpS_unlock]) | (refine wpQ fun _ _ => ?_))
@[simp ↓] theorem w_asgt (ts e) : @wpSI (evS P cl (.asg (.tup ts) e) sl st) ⟨N⟩ ⟨Q⟩ ⟨Y⟩ = wp (evE P cl e sl st) (fun x st => wp (fzaR x st) (fun x st => asO (bindT st (.tup ts) x sl) fun sl' => N sl' st) (fun c st => Y c sl st)) (fun c st => Y c sl st) := by
  simp only [↓wp_def, ↓wpS_def, ↓asO_def, ↓asB_def, ↓br_def, evS, wpS_of]; refine wpQ fun x st => ?_; simp only [↓wp_def, ↓wpS_def, ↓asO_def, ↓asB_def, ↓br_def, wpS_of]; refine wpQ fun x st => ?_; cases bindT st (.tup ts) x sl <;> simp
@[simp ↓] theorem w_par (i j es) : @wpSI (evS P cl (.par i j es) sl st) ⟨N⟩ ⟨Q⟩ ⟨Y⟩ = wp (evEs P cl es sl st) (fun xs st => wp (fzasR xs st) (fun xs st => wpS (parSet i j xs sl st) N Q Y) (fun c st => Y c sl st)) (fun c st => Y c sl st) := by
  simp only [evS]; (repeat' first | with_reducible rfl | (simp only [↓wp_def, ↓wpS_def, ↓asO_def, ↓asB_def, ↓br_def, wp_bind, wp_ite_bad, wp_ok, wpS_of, wpS_nx, wpS_rt, wpS_unlock]) | (refine wpQ fun _ _ => ?_))
@[simp ↓] theorem w_sub (o i e) : @wpSI (evS P cl (.sub o i e) sl st) ⟨N⟩ ⟨Q⟩ ⟨Y⟩ = wp (evE P cl e sl st) (fun t st => wp (evE P cl o sl st) (fun x st => wp (evE P cl i sl st) (fun i st => wp (setT x i t st) (fun _ st => N sl st) (fun c st => Y c sl st)) (fun c st => Y c sl st)) (fun c st => Y c sl st)) (fun c st => Y c sl st) := by
  simp only [evS]; (repeat' first | with_reducible rfl | (simp only [↓wp_def, ↓wpS_def, ↓asO_def, ↓asB_def, ↓br_def, wp_bind, wp_ite_bad, wp_ok, wpS_of, wpS_nx, wpS_rt, wpS_unlock]) | (refine wpQ fun _ _ => ?_))
@[simp ↓] theorem w_setf (o f e) : @wpSI (evS P cl (.fld o f e) sl st) ⟨N⟩ ⟨Q⟩ ⟨Y⟩ = wp (evE P cl e sl st) (fun t st => wp (evE P cl o sl st) (fun x st => wp (setFld P x f t st) (fun _ st => N sl st) (fun c st => Y c sl st)) (fun c st => Y c sl st)) (fun c st => Y c sl st) := by
  simp only [evS]; (repeat' first | with_reducible rfl | (simp only [↓wp_def, ↓wpS_def, ↓asO_def, ↓asB_def, ↓br_def, wp_bind, wp_ite_bad, wp_ok, wpS_of, wpS_nx, wpS_rt, wpS_unlock]) | (refine wpQ fun _ _ => ?_))
@[simp ↓] theorem w_subn (o i j e) : @wpSI (evS P cl (.subn o i j e) sl st) ⟨N⟩ ⟨Q⟩ ⟨Y⟩ = wp (evE P cl e sl st) (fun t st => wp (fzaR t st) (fun t st => asO (twoI st t) fun q => wp (evE P cl o sl st) (fun ov st => wp (evE P cl i sl st) (fun iv st => wp (setTL ov iv (.int q.1) st) (fun _ st => N (sl.set j (some (.int q.2))) st) (fun c st => Y c sl st)) (fun c st => Y c sl st)) (fun c st => Y c sl st)) (fun c st => Y c sl st)) (fun c st => Y c sl st) := by
  simp only [↓wp_def, ↓wpS_def, ↓asO_def, evS, wpS_of]; refine wpQ fun t st => ?_; simp only [↓wp_def, ↓wpS_def, ↓asO_def, wpS_of]; refine wpQ fun t st => ?_
  cases twoI st t with
  | none => simp
  | some q => obtain ⟨x, y⟩ := q; (repeat' first | with_reducible rfl | (simp only [↓wp_def, ↓wpS_def, ↓asO_def, asO_some, wpS_of, wpS_nx]) | (refine wpQ fun _ _ => ?_))
@[simp ↓] theorem w_ex (e) : @wpSI (evS P cl (.ex e) sl st) ⟨N⟩ ⟨Q⟩ ⟨Y⟩ = wp (evE P cl e sl st) (fun _ st => N sl st) (fun c st => Y c sl st) := by
  simp only [evS]; (repeat' first | with_reducible rfl | (simp only [↓wp_def, ↓wpS_def, ↓asO_def, ↓asB_def, ↓br_def, wp_bind, wp_ite_bad, wp_ok, wpS_of, wpS_nx, wpS_rt, wpS_unlock]) | (refine wpQ fun _ _ => ?_))
@[simp ↓] theorem w_ret (e) : @wpSI (evS P cl (.ret e) sl st) ⟨N⟩ ⟨Q⟩ ⟨Y⟩ = wp (evE P cl e sl st) Q (fun c st => Y c sl st) := by
  simp only [evS]; (repeat' first | with_reducible rfl | (simp only [↓wp_def, ↓wpS_def, ↓asO_def, ↓asB_def, ↓br_def, wp_bind, wp_ite_bad, wp_ok, wpS_of, wpS_nx, wpS_rt, wpS_unlock]) | (refine wpQ fun _ _ => ?_))
@[simp ↓] theorem w_ret0 : @wpSI (evS P cl .ret0 sl st) ⟨N⟩ ⟨Q⟩ ⟨Y⟩ = Q .non st := nrfl rfl
@[simp ↓] theorem w_pass : @wpSI (evS P cl .pass sl st) ⟨N⟩ ⟨Q⟩ ⟨Y⟩ = N sl st := nrfl rfl
@[simp ↓] theorem w_try (b : Ss) (c i h) : @wpSI (evS P cl (.try_ b (.cons c (some i) h .nil)) sl st) ⟨N⟩ ⟨Q⟩ ⟨Y⟩ = wpS (evSs P cl b sl st) N Q (fun k sl st => P.excs.contains k = true ∧ br (P.sub k c) (wpS (wipeR i (hSs (P.sub k) i (hotF P (P.sub k)) h (sl.set i none) st)) N Q Y) (Y k sl st)) := by
  simp only [evS]
  cases evSs P cl b sl st with
  | nx sl st => rfl
  | rt t st => rfl
  | bad => rfl
  | exc k sl st =>
    simp only [tryR, ↓wpS_def, wpS_exc]
    cases h1 : P.excs.contains k
    · simp
    · cases h2 : P.sub k c <;> simp
@[simp ↓] theorem w_tryN (b : Ss) (c h) : @wpSI (evS P cl (.try_ b (.cons c none h .nil)) sl st) ⟨N⟩ ⟨Q⟩ ⟨Y⟩ = wpS (evSs P cl b sl st) N Q (fun _ _ _ => False) := by
  simp only [evS]
  cases evSs P cl b sl st <;> rfl
@[simp ↓] theorem wpS_wipe (i : Nat) (r : RS) : @wpSI (wipeR i r) ⟨N⟩ ⟨Q⟩ ⟨Y⟩ = wpS r (fun sl st => N (sl.set i none) st) Q (fun _ _ _ => False) := by cases r <;> rfl
@[simp ↓] theorem w_rai (c) : @wpSI (evS P cl (.rai c) sl st) ⟨N⟩ ⟨Q⟩ ⟨Y⟩ = Y c sl st := nrfl rfl
@[simp ↓] theorem w_ifs (c a b) : @wpSI (evS P cl (.ite c a b) sl st) ⟨N⟩ ⟨Q⟩ ⟨Y⟩ = wp (evE P cl c sl st) (fun x st => asB x fun q => br q (wpS (evSs P cl a sl st) N Q Y) (wpS (evSs P cl b sl st) N Q Y)) (fun c st => Y c sl st) := by
  simp only [↓wp_def, ↓wpS_def, ↓asO_def, ↓asB_def, ↓br_def, evS, wpS_of]; refine wpQ fun x st => ?_; cases x <;> first | rfl | (rename_i q; cases q <;> simp)
@[simp ↓] theorem w_for (tg it b) : @wpSI (evS P cl (.for_ tg it b) sl st) ⟨N⟩ ⟨Q⟩ ⟨Y⟩ = wp (evIt P cl it sl st) (fun w st => wpS (forGo (forF (evSs P cl b) tg) w.1 sl st) (fun sl st => N sl (unlock w.2 st)) (fun t st => Q t (unlock w.2 st)) (fun c sl st => Y c sl (unlock w.2 st))) (fun c st => Y c sl st) := by
  simp only [evS]; (repeat' first | with_reducible rfl | (simp only [↓wp_def, ↓wpS_def, ↓asO_def, ↓asB_def, ↓br_def, wp_bind, wp_ite_bad, wp_ok, wpS_of, wpS_nx, wpS_rt, wpS_unlock]) | (refine wpQ fun _ _ => ?_))
@[simp ↓] theorem w_whl (n c b) : @wpSI (evS P cl (.whl n c b) sl st) ⟨N⟩ ⟨Q⟩ ⟨Y⟩ = wpS (whlGo (evE P cl c) (evSs P cl b) n sl st) N Q Y := by
  simp only [evS]; rfl
@[simp ↓] theorem w_snil : @wpSI (evSs P cl .nil sl st) ⟨N⟩ ⟨Q⟩ ⟨Y⟩ = N sl st := nrfl rfl
@[simp ↓] theorem w_scons (s ss) : @wpSI (evSs P cl (.cons s ss) sl st) ⟨N⟩ ⟨Q⟩ ⟨Y⟩ = wpS (evS P cl s sl st) (fun sl st => wpS (evSs P cl ss sl st) N Q Y) Q Y := by
  simp only [↓wp_def, ↓wpS_def, ↓asO_def, ↓asB_def, ↓br_def, evSs, wpS_thn]
end
@[simp] theorem meths_blade {P : Prog} [M_blade P] : P.meths.lookup (14, ("blade" : Str)) = some 4 := M_blade.m_blade
@[simp] theorem meths_kinds {P : Prog} [M_kinds P] : P.meths.lookup (14, ("kinds" : Str)) = some 5 := M_kinds.m_kinds
@[simp] theorem meths_may_lie {P : Prog} [M_may_lie P] : P.meths.lookup (14, ("may_lie" : Str)) = some 6 := M_may_lie.m_may_lie
@[simp] theorem meths_lyings {P : Prog} [M_lyings P] : P.meths.lookup (14, ("lyings" : Str)) = some 7 := M_lyings.m_lyings
@[simp] theorem meths_sides {P : Prog} [M_sides P] : P.meths.lookup (14, ("sides" : Str)) = some 8 := M_sides.m_sides
@[simp] theorem meths_keep {P : Prog} [M_keep P] : P.meths.lookup (15, ("keep" : Str)) = some 102 := M_keep.m_keep
@[simp] theorem meths_come {P : Prog} [M_come P] : P.meths.lookup (15, ("come" : Str)) = some 103 := M_come.m_come
@[simp] theorem meths_put {P : Prog} [M_put P] : P.meths.lookup (15, ("put" : Str)) = some 104 := M_put.m_put
@[simp] theorem meths_cut {P : Prog} [M_cut P] : P.meths.lookup (15, ("cut" : Str)) = some 105 := M_cut.m_cut
@[simp] theorem meths_plates {P : Prog} [M_plates P] : P.meths.lookup (15, ("plates" : Str)) = some 106 := M_plates.m_plates
@[simp] theorem meths_made {P : Prog} [M_made P] : P.meths.lookup (15, ("made" : Str)) = some 107 := M_made.m_made
@[simp] theorem meths_cells {P : Prog} [M_cells P] : P.meths.lookup (15, ("cells" : Str)) = some 108 := M_cells.m_cells
@[simp] theorem meths_undo {P : Prog} [M_undo P] : P.meths.lookup (15, ("undo" : Str)) = some 109 := M_undo.m_undo
@[simp] theorem meths_best {P : Prog} [M_best P] : P.meths.lookup (16, ("best" : Str)) = some 114 := M_best.m_best
@[simp] theorem meths_few {P : Prog} [M_few P] : P.meths.lookup (16, ("few" : Str)) = some 115 := M_few.m_few
@[simp] theorem meths_report {P : Prog} [M_report P] : P.meths.lookup (16, ("report" : Str)) = some 116 := M_report.m_report
@[simp] theorem inits_14 {P : Prog} [I_14 P] : P.inits.lookup 14 = some 3 := I_14.i_14
@[simp] theorem inits_15 {P : Prog} [I_15 P] : P.inits.lookup 15 = some 101 := I_15.i_15
@[simp] theorem inits_16 {P : Prog} [I_16 P] : P.inits.lookup 16 = some 113 := I_16.i_16
/-- into a def -/
theorem wp_fn {P : Prog} {n f : Nat} {F : Fn} (i : P.fn f = some F) {xs : List T} {st : Store} {Q : QT} {X : XT} (hl : xs.length = F.np) (h : wpS (evSs P (callN P n) F.body (xs.map some ++ List.replicate (F.ns - xs.length) none) st) (fun _ st' => Q .non (st'.take st.length)) (fun t st' => wp (leaveT st.length t st') Q X) (fun c _ st' => X c (st'.take st.length))) : wp (callN P (n + 1) f xs st) Q X := by
  simp only [callN, i]
  rw [if_pos hl, wp_def, wp_fnEnd]
  exact h
/-! ### loops -/
theorem wp_for {f : T → Slots → Store → RS} {N : Slots → Store → Prop} {Q : QT} {Y : Nat → Slots → Store → Prop} : ∀ {xs : List T} {sl : Slots} {st : Store} (I : Nat → Slots → Store → Prop), I 0 sl st →
    (∀ i x sl st, xs[i]? = some x → I i sl st → wpS (f x sl st) (I (i + 1)) Q Y) → (∀ sl st, I xs.length sl st → N sl st) → wpS (forGo f xs sl st) N Q Y
  | [], sl, st, I, h0, _, hn => hn sl st h0
  | x :: xs, sl, st, I, h0, hs, hn => by
    simp only [↓wp_def, ↓wpS_def, ↓asO_def, ↓asB_def, ↓br_def, forGo, wpS_thn]
    refine wpS_mono (hs 0 x sl st rfl h0) (fun sl st h => ?_) (fun _ _ h => h) (fun _ _ _ h => h)
    exact wp_for (fun i => I (i + 1)) h (fun i y sl st hx h => hs (i + 1) y sl st (by simpa using hx) h) (fun sl st h => hn sl st (by simpa using h))
theorem wp_comp {f : T → Store → R (Option T)} {Q : List T → Store → Prop} {X : XT} : ∀ {xs : List T} {st : Store} (I : Nat → List T → Store → Prop), I 0 [] st →
    (∀ i x ys st, xs[i]? = some x → I i ys st → wp (f x st) (fun o st => I (i + 1) (ys ++ o.toList) st) X) → (∀ ys st, I xs.length ys st → Q ys st) → wp (compGo f xs st) Q X := by
  have main : ∀ {xs : List T} {st : Store} (I : Nat → List T → Store → Prop) (zs : List T), I 0 zs st →
    (∀ i x ys st, xs[i]? = some x → I i ys st → wp (f x st) (fun o st => I (i + 1) (ys ++ o.toList) st) X) → wp (compGo f xs st) (fun ys st => I xs.length (zs ++ ys) st) X := by
    intro xs
    induction xs with
    | nil => intro st I zs h0 hs; simpa [compGo] using h0
    | cons x xs ih =>
      intro st I zs h0 hs
      simp only [↓wp_def, ↓wpS_def, ↓asO_def, ↓asB_def, ↓br_def, compGo, wp_bind, wp_ok]
      refine wp_mono (hs 0 x zs st rfl h0) (fun o st h => ?_) (fun _ _ h => h)
      simp only [↓wp_def, ↓wpS_def, ↓asO_def, ↓asB_def, ↓br_def, wp_bind, wp_ok]
      refine wp_mono (ih (fun i => I (i + 1)) (zs ++ o.toList) h fun i y ys st hx h => hs (i + 1) y ys st (by simpa using hx) h) (fun ys st h => ?_) (fun _ _ h => h)
      cases o <;> simpa using h
  intro xs st I h0 hs hn
  refine wp_mono (main I [] h0 hs) (fun ys st h => hn ys st (by simpa using h)) (fun _ _ h => h)
theorem wp_whl {c : Slots → Store → R T} {f : Slots → Store → RS} {N : Slots → Store → Prop} {Q : QT} {Y : Nat → Slots → Store → Prop} (I : Nat → Slots → Store → Prop)
    (hs : ∀ m sl st, I m sl st → wp (c sl st) (fun x st => asB x fun b => br b (wpS (f sl st) (fun sl st => ∃ k, k < m ∧ I k sl st) Q Y) (N sl st)) (fun c st => Y c sl st)) :
    ∀ {n m : Nat} {sl : Slots} {st : Store}, I m sl st → m < n → wpS (whlGo c f n sl st) N Q Y
  | 0, _, _, _, _, h => by omega
  | n + 1, m, sl, st, h, hl => by
    simp only [↓wp_def, ↓wpS_def, ↓asO_def, ↓asB_def, ↓br_def, whlGo, wpS_of]
    refine wp_mono (hs m sl st h) (fun x st h => ?_) (fun _ _ h => h)
    cases x <;> first | exact h.elim | skip
    rename_i b
    cases b
    · simpa using h
    · simp only [↓wp_def, ↓wpS_def, ↓asO_def, ↓asB_def, ↓br_def, asB_bl, br_true] at h
      simp only [↓wp_def, ↓wpS_def, ↓asO_def, ↓asB_def, ↓br_def, wpS_thn]
      exact wpS_mono h (fun sl st ⟨k, hk, h⟩ => wp_whl I hs h (by omega)) (fun _ _ h => h) (fun _ _ _ h => h)
@[simp ↓] theorem w_for_nil {f : T → Slots → Store → RS} {sl : Slots} {st : Store} {N : Slots → Store → Prop} {Q : QT} {Y : Nat → Slots → Store → Prop} : @wpSI (forGo f [] sl st) ⟨N⟩ ⟨Q⟩ ⟨Y⟩ = N sl st := nrfl rfl
@[simp ↓] theorem w_for_cons {f : T → Slots → Store → RS} {x : T} {xs : List T} {sl : Slots} {st : Store} {N : Slots → Store → Prop} {Q : QT} {Y : Nat → Slots → Store → Prop} : @wpSI (forGo f (x :: xs) sl st) ⟨N⟩ ⟨Q⟩ ⟨Y⟩ = wpS (f x sl st) (fun sl st => wpS (forGo f xs sl st) N Q Y) Q Y := by
  simp only [↓wpS_def, forGo, wpS_thn]
theorem comp_of_map {α : Type} {f : T → Store → R (Option T)} {e e' : α → T} {st : Store} {xs : List α} (h : ∀ a ∈ xs, f (e a) st = .ok (some (e' a)) st) : compGo f (xs.map e) st = .ok (xs.map e') st := by
  induction xs with
  | nil => rfl
  | cons x xs ih => simp only [List.map_cons, compGo, h x (by simp), R.bind, ih fun y hy => h y (by simp [hy])]
theorem rngT_get {lo : Int} {n i : Nat} {x : T} (h : (rngT lo n)[i]? = some x) : x = .int (lo + i) ∧ i < n := by
  induction n generalizing lo i with
  | zero => simp [rngT] at h
  | succ n ih =>
    cases i with
    | zero => simp [rngT] at h; exact ⟨by rw [← h]; simp, by omega⟩
    | succ i =>
      simp [rngT] at h
      obtain ⟨h1, h2⟩ := ih h
      exact ⟨by rw [h1]; congr 1; omega, by omega⟩
@[simp] theorem rng_length (lo : Int) (n : Nat) : (rngT lo n).length = n := by
  induction n generalizing lo with
  | zero => rfl
  | succ n ih => simp [rngT, ih]
@[simp] theorem bindT_name {st : Store} {i t sl} : bindT st (.name i) t sl = some (sl.set i (some t)) := nrfl rfl
@[simp] theorem vars_name {i} : (Tg.name i).vars = [i] := nrfl rfl
@[simp] theorem vars_tup {ts} : (Tg.tup ts).vars = varsL ts := nrfl rfl
@[simp] theorem varsL_nil : varsL [] = [] := nrfl rfl
@[simp] theorem varsL_cons {t ts} : varsL (t :: ts) = t.vars ++ varsL ts := nrfl rfl
@[simp] theorem wipeS_nil {sl} : wipeS sl [] = sl := nrfl rfl
@[simp] theorem wipeS_cons {sl v vs} : wipeS sl (v :: vs) = (wipeS sl vs).set v none := nrfl rfl
@[simp] theorem unlock_nil {st} : unlock [] st = st := nrfl rfl
end PL
namespace PL
open PC
open PySem L2
/-! ### frozen values, lengths -/
def Fz (t : T) : Prop := ∀ st, fz t st = some (t, st)
theorem Fz.non : Fz .non := fun _ => rfl
@[simp] theorem Fz_non : Fz .non = True := eq_true fun _ => rfl
@[simp] theorem Fz_int {i} : Fz (.int i) = True := eq_true fun _ => rfl
@[simp] theorem Fz_bl {i} : Fz (.bl i) = True := eq_true fun _ => rfl
@[simp] theorem Fz_str {i} : Fz (.str i) = True := eq_true fun _ => rfl
@[simp] theorem Fz_exc {i} : Fz (.exc i) = True := eq_true fun _ => rfl
@[simp] theorem Fz_nd {g xs} : Fz (.nd g .fz xs) = True := eq_true fun _ => rfl
@[simp] theorem fz_of {t st} (h : Fz t) : fz t st = some (t, st) := h st
@[simp] theorem fz_own {g xs st} : fz (.nd g .own xs) st = some (.nd g .fz xs, st) := nrfl rfl
@[simp] theorem fzR_of {t st} (h : Fz t) : fzR t st = .ok t st := by simp [fzR, h]
@[simp] theorem fza_of {t st} (h : Fz t) : fza t st = some (t, st) := by
  cases t <;> first | rfl | exact h st | skip
  rename_i g o xs
  cases o <;> first | rfl | exact h st
@[simp] theorem fza_ref {k st} : fza (.ref k) st = some (.ref k, st) := nrfl rfl
@[simp] theorem fza_own {g xs st} : fza (.nd g .own xs) st = some (.nd g .fz xs, st) := nrfl rfl
@[simp] theorem fzaR_of {t st} (h : Fz t) : fzaR t st = .ok t st := by simp [fzaR, h]
@[simp] theorem fzaR_ref {k st} : fzaR (.ref k) st = .ok (.ref k) st := nrfl rfl
@[simp] theorem fzaR_own {g xs st} : fzaR (.nd g .own xs) st = .ok (.nd g .fz xs) st := nrfl rfl
@[simp] theorem fzasR_nil {st} : fzasR [] st = .ok [] st := nrfl rfl
@[simp ↓] theorem wp_fzas_cons {t ts st} {Q : List T → Store → Prop} {X} : @wpI _ (fzasR (t :: ts) st) ⟨Q⟩ ⟨X⟩ = wp (fzaR t st) (fun t st => wp (fzasR ts st) (fun ts st => Q (t :: ts) st) X) X := by
  simp only [fzasR]; (repeat' first | with_reducible rfl | (simp only [↓wp_def, wp_bind, wp_ok]) | (refine wpQ fun _ _ => ?_))
@[simp ↓] theorem wp_fzs_nil {st} {Q : List T → Store → Prop} {X} : @wpI _ (fzsR [] st) ⟨Q⟩ ⟨X⟩ = Q [] st := nrfl rfl
@[simp ↓] theorem wp_fzs_cons {t ts st} {Q : List T → Store → Prop} {X} : @wpI _ (fzsR (t :: ts) st) ⟨Q⟩ ⟨X⟩ = wp (fzR t st) (fun t st => wp (fzsR ts st) (fun ts st => Q (t :: ts) st) X) X := by
  simp only [fzsR, fzs, fzR]
  cases fz t st with
  | none => rfl
  | some p =>
    obtain ⟨y, st1⟩ := p
    simp only [↓wp_def, ↓wpS_def, ↓asO_def, ↓asB_def, ↓br_def, wp_ok]
    cases fzs ts st1 <;> rfl
@[simp] theorem fzR_own {g xs st} : fzR (.nd g .own xs) st = .ok (.nd g .fz xs) st := nrfl rfl
@[simp] theorem leaveT_of {n t st} (h : Fz t) (hr : ∀ k, t ≠ .ref k) : leaveT n t st = .ok t (st.take n) := by
  cases t <;> first | rfl | exact absurd rfl (hr _) | skip
  rename_i g o xs
  have := h []
  cases o <;> first | rfl | skip
  all_goals first | (simp [fz] at this; done) | (cases e : fzs xs [] <;> simp [fz, e] at this)
@[simp] theorem leaveT_int {n i st} : leaveT n (.int i) st = .ok (.int i) (st.take n) := nrfl rfl
@[simp] theorem leaveT_bl {n i st} : leaveT n (.bl i) st = .ok (.bl i) (st.take n) := nrfl rfl
@[simp] theorem leaveT_non {n st} : leaveT n .non st = .ok .non (st.take n) := nrfl rfl
@[simp] theorem leaveT_str {n i st} : leaveT n (.str i) st = .ok (.str i) (st.take n) := nrfl rfl
@[simp] theorem leaveT_fz {n g xs st} : leaveT n (.nd g .fz xs) st = .ok (.nd g .fz xs) (st.take n) := nrfl rfl
@[simp] theorem load_nil {n : Nat} {st : Store} {u : List Nat} : loadL n st u [] = some [] := nrfl rfl
@[simp] theorem load_leaf {n : Nat} {st : Store} {u : List Nat} {x : T} {xs : List T} (h : leafT x = true) : loadL n st u (x :: xs) = (loadL n st u xs).map (x :: ·) := by
  cases x <;> first | (cases h; done) | (simp only [loadL, h, if_true])
@[simp] theorem wp_leaveT_opn {n g xs st} {Q : QT} {X} : @wpI _ (leaveT n (.nd g .opn xs) st) ⟨Q⟩ ⟨X⟩ = asO (loadL n st [] xs) (fun ys => Q (.nd g .opn ys) (st.take n)) := by
  simp only [leaveT]
  cases loadL n st [] xs <;> simp
@[simp] theorem leaf_int {i} : leafT (.int i) = true := nrfl rfl
@[simp] theorem leaf_fz {g xs} : leafT (.nd g .fz xs) = true := nrfl rfl
@[simp] theorem leaf_own {g xs} : leafT (.nd g .own xs) = true := nrfl rfl
@[simp] theorem leaveT_own {n g xs st} : leaveT n (.nd g .own xs) st = .ok (.nd g .own xs) (st.take n) := nrfl rfl
theorem size_big : (1000000 : Nat) ≤ sizeLine := by decide
@[simp] theorem lenOk_lt {n : Nat} (h : n < 100000) : lenOk n = true := decide_eq_true (by have := size_big; omega)
@[simp] theorem rngOk_lt {i j : Int} (h1 : -1000000 < i) (h2 : j < 90000) (h3 : i < 1000000) (h4 : -1000000 < j) (h5 : j - i < 90000) : rngOk i j = true := by
  simp only [rngOk]
  exact lenOk_lt (by omega)
@[simp] theorem rngW_lt {i j : Int} (h1 : -1000000 < i) (h2 : j < 90000) (h3 : i < 1000000) (h4 : -1000000 < j) (h5 : j - i < 90000) : rngW i j = true := by
  simp only [rngW, Bool.and_eq_true, decide_eq_true_eq]
  exact ⟨⟨⟨⟨by omega, by omega⟩, by omega⟩, by omega⟩, lenOk_lt (by omega)⟩
@[simp] theorem binop_add : binop .Add = addT := nrfl rfl
@[simp] theorem binop_sub : binop .Sub = subT := nrfl rfl
@[simp] theorem binop_mul : binop .Mult = mulT := nrfl rfl
@[simp] theorem binop_div : binop .FloorDiv = divT := nrfl rfl
@[simp] theorem binop_mod : binop .Mod = modT := nrfl rfl
@[simp] theorem binop_pow : binop .Pow = powT := nrfl rfl
@[simp] theorem addT_int {i j st} : addT (.int i) (.int j) st = .ok (.int (i + j)) st := nrfl rfl
@[simp] theorem subT_int {i j st} : subT (.int i) (.int j) st = .ok (.int (i - j)) st := nrfl rfl
@[simp] theorem w_mul {i j st} {Q : QT} {X} : @wpI _ (mulT (.int i) (.int j) st) ⟨Q⟩ ⟨X⟩ = (mulOk i j = true ∧ Q (.int (i * j)) st) := by simp [mulT]
@[simp] theorem w_div {i j st} {Q : QT} {X} : @wpI _ (divT (.int i) (.int j) st) ⟨Q⟩ ⟨X⟩ = ((0 < j ∧ j.natAbs.log2 < 9000) ∧ Q (.int (i / j)) st) := by simp [divT]
@[simp] theorem w_mod {i j st} {Q : QT} {X} : @wpI _ (modT (.int i) (.int j) st) ⟨Q⟩ ⟨X⟩ = (0 < j ∧ Q (.int (i % j)) st) := by simp [modT]
@[simp] theorem w_pow {i j st} {Q : QT} {X} : @wpI _ (powT (.int i) (.int j) st) ⟨Q⟩ ⟨X⟩ = (((0 ≤ j ∧ j ≤ 1000000) ∧ i.natAbs < 2 ^ 64) ∧ Q (.int (i ^ j.toNat)) st) := by simp [powT]
@[simp] theorem cmpop_lt : cmpop .Lt = ltT := nrfl rfl
@[simp] theorem cmpop_le : cmpop .LtE = leT := nrfl rfl
@[simp] theorem cmpop_gt : cmpop .Gt = gtT := nrfl rfl
@[simp] theorem cmpop_ge : cmpop .GtE = geT := nrfl rfl
@[simp] theorem cmpop_eq : cmpop .Eq = eqR false := nrfl rfl
@[simp] theorem cmpop_ne : cmpop .NotEq = eqR true := nrfl rfl
@[simp] theorem cmpop_is : cmpop .Is = isT false := nrfl rfl
@[simp] theorem cmpop_isn : cmpop .IsNot = isT true := nrfl rfl
@[simp] theorem cmpop_in : cmpop .In = inR false := nrfl rfl
@[simp] theorem cmpop_nin : cmpop .NotIn = inR true := nrfl rfl
@[simp] theorem ltT_int {i j st} : ltT (.int i) (.int j) st = .ok (.bl (decide (i < j))) st := nrfl rfl
@[simp] theorem leT_int {i j st} : leT (.int i) (.int j) st = .ok (.bl (decide (i ≤ j))) st := nrfl rfl
@[simp] theorem gtT_int {i j st} : gtT (.int i) (.int j) st = .ok (.bl (decide (j < i))) st := nrfl rfl
@[simp] theorem geT_int {i j st} : geT (.int i) (.int j) st = .ok (.bl (decide (j ≤ i))) st := nrfl rfl
@[simp] theorem eqT_int {i j st} : PC.eqT st (.int i) (.int j) = some (decide (i = j)) := nrfl rfl
@[simp] theorem eqT_bl {i j st} : PC.eqT st (.bl i) (.bl j) = some (decide (i = j)) := nrfl rfl
@[simp] theorem eqT_str {i j st} : PC.eqT st (.str i) (.str j) = some (decide (i = j)) := nrfl rfl
/-- what == falls back on when the plain one does not answer: told tuples with dicts in them -/
def eqFb (st : Store) (x y : T) : Option Bool := eqTN (nodeOf st x) (nodeOf st y)
def eqW (n : Bool) (a b : Option Bool) : Option Bool := match a with
  | some v => some (notO n v)
  | none => if n then none else b
@[simp] theorem eqW_some {n v b} : eqW n (some v) b = some (notO n v) := nrfl rfl
@[simp] theorem eqW_none {b} : eqW false none b = b := nrfl rfl
@[simp ↓] theorem w_eqR {n x y st} {Q : QT} {X} : @wpI _ (eqR n x y st) ⟨Q⟩ ⟨X⟩ = asO (eqW n (PC.eqT st x y) (eqFb st x y)) fun b => Q (.bl b) st := by
  unfold eqR eqW eqFb
  cases PC.eqT st x y with
  | some v => simp
  | none => cases n <;> simp <;> cases eqTN (nodeOf st x) (nodeOf st y) <;> simp
@[simp] theorem notO_f {b} : notO false b = b := nrfl rfl
@[simp] theorem notO_t {b} : notO true b = !b := nrfl rfl
@[simp] theorem biop_len : biop .len = on1 lenT := nrfl rfl
@[simp] theorem biop_int : biop .int = on1 PC.intT := nrfl rfl
@[simp] theorem biop_str : biop .str = on1 strT := nrfl rfl
@[simp] theorem biop_abs : biop .abs = on1 absT := nrfl rfl
@[simp] theorem biop_sum : biop .sum = on1 sumT := nrfl rfl
@[simp] theorem biop_all : biop .all = on1 allT := nrfl rfl
@[simp] theorem biop_any : biop .any = on1 anyT := nrfl rfl
@[simp] theorem biop_list : biop .list = on1 listT := nrfl rfl
@[simp] theorem biop_tuple : biop .tuple = on1 tupleT := nrfl rfl
@[simp] theorem biop_max2 : biop .max2 = on2 maxT := nrfl rfl
@[simp] theorem biop_min2 : biop .min2 = on2 minT := nrfl rfl
@[simp] theorem on1_eq {f x st} : on1 f [x] st = f x st := nrfl rfl
@[simp] theorem on2_eq {f x y st} : on2 f [x, y] st = f x y st := nrfl rfl
@[simp] theorem intT_int {i st} : PC.intT (.int i) st = .ok (.int i) st := nrfl rfl
@[simp] theorem intT_bl {i st} : PC.intT (.bl i) st = .ok (.int (if i then 1 else 0)) st := nrfl rfl
@[simp] theorem absT_int {i st} : absT (.int i) st = .ok (.int (if i < 0 then -i else i)) st := nrfl rfl
@[simp] theorem maxT_int {i j st} : maxT (.int i) (.int j) st = .ok (.int (if j > i then j else i)) st := nrfl rfl
@[simp] theorem minT_int {i j st} : minT (.int i) (.int j) st = .ok (.int (if j < i then j else i)) st := nrfl rfl
@[simp] theorem isStrT_nd {g o xs} : isStrT (.nd g o xs) = false := nrfl rfl
@[simp] theorem isStrT_ref {k} : isStrT (.ref k) = false := nrfl rfl
@[simp] theorem isStrT_str {k} : isStrT (.str k) = true := nrfl rfl
@[simp] theorem bsOk_j : bsOk .join = true := nrfl rfl
@[simp] theorem bsOk_s : bsOk .split = true := nrfl rfl
@[simp] theorem bmOk_j : bmOk .join = false := nrfl rfl
@[simp] theorem bmOk_sp : bmOk .split = false := nrfl rfl
@[simp] theorem bmOk_p0 : bmOk .pop0 = true := nrfl rfl
@[simp] theorem bmOk_p1 : bmOk .pop1 = true := nrfl rfl
@[simp] theorem bmOk_i : bmOk .insert = true := nrfl rfl
@[simp] theorem nodeOf_nd {st g o xs} : nodeOf st (.nd g o xs) = some (g, o, xs) := nrfl rfl
@[simp] theorem nodeOf_int {st i} : nodeOf st (.int i) = none := nrfl rfl
@[simp] theorem nodeOf_bl {st i} : nodeOf st (.bl i) = none := nrfl rfl
@[simp] theorem nodeOf_str {st i} : nodeOf st (.str i) = none := nrfl rfl
@[simp] theorem nodeOf_non {st} : nodeOf st .non = none := nrfl rfl
def cellN (c : Option T) : Option (Tag × Ow × List T) := match c with
  | some (.nd g o xs) => some (g, o, xs)
  | _ => none
@[simp] theorem cellN_some {g o xs} : cellN (some (.nd g o xs)) = some (g, o, xs) := nrfl rfl
@[simp] theorem nodeOf_ref {st : Store} {k} : nodeOf st (.ref k) = cellN st[k]? := nrfl rfl
@[simp] theorem lenT_ref {st : Store} {k} : lenT (.ref k) st = lenN (cellN st[k]?) st := nrfl rfl
@[simp] theorem lenN_lst {o xs st} : lenN (some (.lst, o, xs)) st = .ok (.int xs.length) st := nrfl rfl
@[simp] theorem idxT_ref {st : Store} {k i} : idxT (.ref k) i st = idxN (cellN st[k]?) i st := nrfl rfl
@[simp] theorem idxN_lst {o xs i st} : idxN (some (.lst, o, xs)) (.int i) st = R.of (L2.atI xs i) st := nrfl rfl
@[simp] theorem idxT_lst {o xs i st} : idxT (.nd .lst o xs) (.int i) st = R.of (L2.atI xs i) st := nrfl rfl
@[simp] theorem idxT_scr {o xs i st} : idxT (.nd .scr o xs) (.int i) st = R.of (L2.atI xs i) st := nrfl rfl
@[simp] theorem idxT_tup {o xs i st} : idxT (.nd .tup o xs) (.int i) st = R.of (L2.atI xs i) st := nrfl rfl
def cellSet (c : Option T) (k : Nat) (i : Int) (t : T) (st : Store) : R T := match c with
  | some (.nd .lst .own ys) => (match L2.ixN ys.length i with
        | some j => .ok .non (st.set k (.nd .lst .own (ys.set j t)))
        | none => .bad)
  | some (.nd (.dic ks) .own ys) => if keysT false ys = some ks ∧ ks.length < sizeLine then .ok .non (st.set k (.nd (.dic (putN (.num i) ks)) .own (putD (.num i) (.int i) t ks ys))) else .bad
  | _ => .bad
@[simp] theorem cellSet_own {ys k i t st} {Q : QT} {X} : @wpI _ (cellSet (some (.nd .lst .own ys)) k i t st) ⟨Q⟩ ⟨X⟩ = asO (L2.ixN ys.length i) fun j => Q .non (st.set k (.nd .lst .own (ys.set j t))) := by
  simp only [cellSet]
  cases L2.ixN ys.length i <;> simp
def cellSetL (c : Option T) (k : Nat) (i : Int) (t : T) (st : Store) : R T := match c with
  | some (.nd .lst .own ys) => (match L2.ixN ys.length i with
        | some j => .ok .non (st.set k (.nd .lst .own (ys.set j t)))
        | none => .bad)
  | _ => .bad
@[simp] theorem cellSetL_own {ys k i t st} {Q : QT} {X} : @wpI _ (cellSetL (some (.nd .lst .own ys)) k i t st) ⟨Q⟩ ⟨X⟩ = asO (L2.ixN ys.length i) fun j => Q .non (st.set k (.nd .lst .own (ys.set j t))) := by
  simp only [cellSetL]
  cases L2.ixN ys.length i <;> simp
def dicC (c : Option T) : Bool := match c with
  | some (.nd (.dic _) _ _) => true
  | _ => false
@[simp] theorem dicC_lst {o xs} : dicC (some (.nd .lst o xs)) = false := nrfl rfl
@[simp] theorem dicC_tup {o xs} : dicC (some (.nd .tup o xs)) = false := nrfl rfl
@[simp] theorem dicC_dic {ks o xs} : dicC (some (.nd (.dic ks) o xs)) = true := nrfl rfl
@[simp] theorem dicB_ref {st : Store} {k} : dicB st (.ref k) = dicC st[k]? := by
  simp only [dicB, nodeOf]
  cases st[k]? with
  | none => rfl
  | some t => cases t <;> first | rfl | (rename_i g o xs; cases g <;> rfl)
@[simp] theorem dicB_lst {st o xs} : dicB st (.nd .lst o xs) = false := nrfl rfl
@[simp] theorem dicB_tup {st o xs} : dicB st (.nd .tup o xs) = false := nrfl rfl
@[simp] theorem dicB_scr {st o xs} : dicB st (.nd .scr o xs) = false := nrfl rfl
@[simp] theorem dicB_dic {st ks o xs} : dicB st (.nd (.dic ks) o xs) = true := nrfl rfl
@[simp] theorem bdOk_p : bdOk .popd = true := nrfl rfl
@[simp] theorem bdOk_c : bdOk .cleard = true := nrfl rfl
@[simp] theorem bdOk_g : bdOk .getd = true := nrfl rfl
@[simp] theorem bmOk_dp : bmOk .popd = false := nrfl rfl
@[simp] theorem bmOk_dc : bmOk .cleard = false := nrfl rfl
@[simp] theorem bmOk_dg : bmOk .getd = false := nrfl rfl
@[simp] theorem bsOk_dp : bsOk .popd = false := nrfl rfl
@[simp] theorem bsOk_dc : bsOk .cleard = false := nrfl rfl
@[simp] theorem bsOk_dg : bsOk .getd = false := nrfl rfl
@[simp] theorem bmOk_rm : bmOk .remove = true := nrfl rfl
@[simp] theorem bmOk_ix : bmOk .index = true := nrfl rfl
@[simp] theorem setT_ref {st : Store} {k i t} (hf : Fz t) : setT (.ref k) (.int i) t st = cellSet st[k]? k i t st := by
  simp only [setT, fz_of hf]; rfl
@[simp] theorem setTL_ref {st : Store} {k i} {t : Int} : setTL (.ref k) (.int i) (.int t) st = cellSetL st[k]? k i (.int t) st := nrfl rfl
@[simp] theorem lenT_lst {o xs st} : lenT (.nd .lst o xs) st = .ok (.int xs.length) st := nrfl rfl
@[simp] theorem lenT_scr {o xs st} : lenT (.nd .scr o xs) st = .ok (.int xs.length) st := nrfl rfl
@[simp] theorem lenT_tup {o xs st} : lenT (.nd .tup o xs) st = .ok (.int xs.length) st := nrfl rfl
@[simp] theorem atI_nat {xs : List T} {n : Nat} : L2.atI xs (n : Int) = xs[n]? := by
  have : ¬ ((n : Int) < 0) := by omega
  simp only [L2.atI, L2.ixN, this, if_false]
  by_cases h : (n : Int) < xs.length
  · simp [h]
  · have h2 : ¬ (n < xs.length) := by omega
    simp [h2]
theorem atI_get {xs : List T} {i : Int} (h0 : 0 ≤ i) : L2.atI xs i = xs[i.toNat]? := by
  obtain ⟨n, rfl⟩ := Int.eq_ofNat_of_zero_le h0
  simpa using atI_nat
@[simp] theorem atI_lit {xs : List T} {n : Nat} : L2.atI xs (no_index (OfNat.ofNat n) : Int) = xs[n]? := atI_nat (n := n)
@[simp] theorem atI_0 {xs : List T} : L2.atI xs (0 : Int) = xs[0]? := atI_nat (n := 0)
@[simp] theorem atI_1 {xs : List T} : L2.atI xs (1 : Int) = xs[1]? := atI_nat (n := 1)
theorem ixN_nat {n l : Nat} (h : n < l) : L2.ixN l (n : Int) = some n := by
  have : ¬ ((n : Int) < 0) := by omega
  have h2 : (n : Int) < l := by omega
  simp [L2.ixN, this, h2]
@[simp] theorem ixN_lit {n l : Nat} (h : n < l) : L2.ixN l (no_index (OfNat.ofNat n) : Int) = some n := ixN_nat h
/-! ### targets, cells -/
@[simp] theorem seqOf_tup {st o xs} : seqOf st (.nd .tup o xs) = some xs := nrfl rfl
@[simp ↓] theorem w_bindT {st ts t sl} {f : Slots → Prop} : @asOI _ (bindT st (.tup ts) t sl) ⟨f⟩ = asO (lsqOf st t) fun xs => asO (PC.bindL st ts xs sl) f := by
  simp only [bindT]
  cases lsqOf st t <;> rfl
@[simp] theorem lsqOf_lst {st o xs} : lsqOf st (.nd .lst o xs) = some xs := nrfl rfl
@[simp] theorem lsqOf_tup {st o xs} : lsqOf st (.nd .tup o xs) = some xs := nrfl rfl
@[simp] theorem w_bindN {st sl} : PC.bindL st [] [] sl = some sl := nrfl rfl
@[simp ↓] theorem w_bindC {st t ts x xs sl} {f : Slots → Prop} : @asOI _ (PC.bindL st (t :: ts) (x :: xs) sl) ⟨f⟩ = asO (bindT st t x sl) fun sl => asO (PC.bindL st ts xs sl) f := by
  simp only [PC.bindL]
  cases bindT st t x sl <;> rfl
@[simp] theorem kp1_own {g xs st} : kp 1 (.nd g .own xs) st = some (.ref st.length, st ++ [.nd g .own xs]) := nrfl rfl
@[simp] theorem kp2_own {g xs st} : kp 2 (.nd g .own xs) st = some (.ref st.length, st ++ [.nd g .own xs]) := nrfl rfl
@[simp] theorem kp3_own {g xs st} : kp 3 (.nd g .own xs) st = some (.ref st.length, st ++ [.nd g .own xs]) := nrfl rfl
@[simp] theorem kp4_own {g xs st} : kp 4 (.nd g .own xs) st = some (.ref st.length, st ++ [.nd g .own xs]) := nrfl rfl
@[simp] theorem kp0 {t st} : kp 0 t st = fza t st := by simp only [kp]
theorem kp_of {d t st} (h : Fz t) : kp d t st = some (t, st) := by
  cases d with
  | zero => rw [kp0]; exact fza_of h
  | succ d =>
    cases t <;> first | (simp only [kp]; exact fza_of h) | exact fza_of h | skip
    rename_i g o xs
    cases o <;> first | exact fza_of h | skip
    · exact absurd (h []) (by simp)
    · have := h []
      simp only [fz] at this
      split at this <;> cases this
@[simp] theorem kp_fz {d g xs st} : kp d (.nd g .fz xs) st = some (.nd g .fz xs, st) := kp_of (by simp)
@[simp] theorem kp_ref {d k st} : kp d (.ref k) st = some (.ref k, st) := by cases d <;> rfl
@[simp] theorem kps_nil {d st} : kps d [] st = some ([], st) := by cases d <;> rfl
@[simp] theorem isLst_nd {st o xs} : isLst st (.nd .lst o xs) = true := nrfl rfl
def isLstC (c : Option T) : Bool := match c with
  | some (.nd .lst _ _) => true
  | _ => false
@[simp] theorem isLstC_lst {o xs} : isLstC (some (.nd .lst o xs)) = true := nrfl rfl
@[simp] theorem isLst_ref {st : Store} {k} : isLst st (.ref k) = isLstC st[k]? := by
  simp only [isLst, nodeOf, isLstC]
  cases st[k]? with
  | none => rfl
  | some t => cases t <;> first | rfl | (rename_i g o xs; cases g <;> rfl)
def walkC (c : Option T) (k : Nat) (st : Store) : Option (List T × Bool × List Nat × Store) := match c with
    | some (.nd .lst .own xs) => some (xs, true, [k], st.set k (.nd .lst .lk xs))
    | some (.nd .lst .opn xs) => some (xs, false, [k], st.set k (.nd .lst .lkx xs))
    | some (.nd .lst .fz xs) => some (xs, true, [], st)
    | some (.nd .lst .lk xs) => some (xs, true, [], st)
    | some (.nd .lst .lkx xs) => some (xs, false, [], st)
    | _ => none
@[simp] theorem walked_ref {st : Store} {k} : walked (.ref k) st = walkC st[k]? k st := nrfl rfl
@[simp] theorem walkC_own {xs k st} : walkC (some (.nd .lst .own xs)) k st = some (xs, true, [k], st.set k (.nd .lst .lk xs)) := nrfl rfl
@[simp] theorem walkC_opn {xs k st} : walkC (some (.nd .lst .opn xs)) k st = some (xs, false, [k], st.set k (.nd .lst .lkx xs)) := nrfl rfl
@[simp] theorem walkC_fz {xs k st} : walkC (some (.nd .lst .fz xs)) k st = some (xs, true, [], st) := nrfl rfl
@[simp] theorem walkC_lk {xs k st} : walkC (some (.nd .lst .lk xs)) k st = some (xs, true, [], st) := nrfl rfl
def unlkC (c : Option T) (k : Nat) (st : Store) : Store := match c with
  | some (.nd g o xs) => st.set k (.nd g (unlockOw o) xs)
  | _ => st
@[simp] theorem unlock_cons {k : Nat} {ks : List Nat} {st : Store} : unlock (k :: ks) st = unlock ks (unlkC st[k]? k st) := by
  simp only [unlock, unlkC]
  cases st[k]? with
  | none => rfl
  | some t => cases t <;> rfl
@[simp] theorem unlkC_lk {g xs k st} : unlkC (some (.nd g .lk xs)) k st = st.set k (.nd g .own xs) := nrfl rfl
@[simp] theorem unlkC_lkx {g xs k st} : unlkC (some (.nd g .lkx xs)) k st = st.set k (.nd g .opn xs) := nrfl rfl
@[simp] theorem bmOk_a : bmOk .append = true := nrfl rfl
@[simp] theorem bmOk_e : bmOk .extend = true := nrfl rfl
@[simp] theorem bmOk_c : bmOk .clear = true := nrfl rfl
def appC (c : Option T) (k : Nat) (x : T) (st : Store) : R T := match c with
  | some (.nd .lst .own ys) => if ys.length < sizeLine then .ok .non (st.set k (.nd .lst .own (ys ++ [x]))) else .bad
  | some (.nd .lst .opn ys) => if ys.length < sizeLine then .ok .non (st.set k (.nd .lst .opn (ys ++ [x]))) else .bad
  | _ => .bad
@[simp ↓] theorem w_append {k x st} {Q : QT} {X} : @wpI _ (bmR .append (.ref k) [x] st) ⟨Q⟩ ⟨X⟩ = wp (fzR x st) (fun x st => wp (appC st[k]? k x st) Q X) X := by
  simp only [bmR, bmop, fzR]
  cases fz x st with
  | none => rfl
  | some p => rfl
@[simp] theorem appC_own {ys k x st} {Q : QT} {X} : @wpI _ (appC (some (.nd .lst .own ys)) k x st) ⟨Q⟩ ⟨X⟩ = (ys.length < sizeLine ∧ Q .non (st.set k (.nd .lst .own (ys ++ [x])))) := by
  simp only [↓wp_def, ↓wpS_def, ↓asO_def, ↓asB_def, ↓br_def, appC, wp_ite_bad, wp_ok]
@[simp] theorem appC_opn {ys k x st} {Q : QT} {X} : @wpI _ (appC (some (.nd .lst .opn ys)) k x st) ⟨Q⟩ ⟨X⟩ = (ys.length < sizeLine ∧ Q .non (st.set k (.nd .lst .opn (ys ++ [x])))) := by
  simp only [↓wp_def, ↓wpS_def, ↓asO_def, ↓asB_def, ↓br_def, appC, wp_ite_bad, wp_ok]
theorem size_lt {n : Nat} (h : n < 100000) : n < sizeLine := by have := size_big; omega
@[simp] theorem lt_size {n : Nat} (h : n < 100000) : (n < sizeLine) = True := eq_true (by have := size_big; omega)
def clrC (c : Option T) (k : Nat) (st : Store) : R T := match c with
  | some (.nd .lst .own _) => .ok .non (st.set k (.nd .lst .own []))
  | some (.nd .lst .opn _) => .ok .non (st.set k (.nd .lst .own []))
  | _ => .bad
@[simp] theorem w_clear {k st} : bmR .clear (.ref k) [] st = clrC st[k]? k st := nrfl rfl
@[simp] theorem clrC_own {ys k st} : clrC (some (.nd .lst .own ys)) k st = .ok .non (st.set k (.nd .lst .own [])) := nrfl rfl
@[simp] theorem clrC_opn {ys k st} : clrC (some (.nd .lst .opn ys)) k st = .ok .non (st.set k (.nd .lst .own [])) := nrfl rfl
def extC (c : Option T) (k : Nat) (o : Ow) (xs : List T) (st : Store) : R T := match c with
  | some (.nd .lst .own ys) => if lenOk (ys.length + xs.length) && closedOw o then .ok .non (st.set k (.nd .lst .own (ys ++ xs))) else .bad
  | some (.nd .lst .opn ys) => if lenOk (ys.length + xs.length) && closedOw o then .ok .non (st.set k (.nd .lst .opn (ys ++ xs))) else .bad
  | _ => .bad
@[simp] theorem w_extend {k o xs st} : bmR .extend (.ref k) [.nd .lst o xs] st = extC st[k]? k o xs st := nrfl rfl
@[simp] theorem extC_own {ys k o xs st} {Q : QT} {X} : @wpI _ (extC (some (.nd .lst .own ys)) k o xs st) ⟨Q⟩ ⟨X⟩ = ((lenOk (ys.length + xs.length) = true ∧ closedOw o = true) ∧ Q .non (st.set k (.nd .lst .own (ys ++ xs)))) := by
  simp only [↓wp_def, ↓wpS_def, ↓asO_def, ↓asB_def, ↓br_def, extC, wp_ite_bad, wp_ok, Bool.and_eq_true]
@[simp] theorem closed_fz : closedOw .fz = true := nrfl rfl
@[simp] theorem closed_own : closedOw .own = true := nrfl rfl
@[simp] theorem set_concat {st : Store} {c x : T} : (st ++ [c]).set st.length x = st ++ [x] := by
  rw [List.set_append_right _ _ (Nat.le_refl _)]; simp
@[simp] theorem take_concat {st : Store} {x : T} : List.take (st.length + 1) (st ++ [x]) = st ++ [x] := List.take_of_length_le (by simp)
@[simp] theorem catT_lst {o o' xs ys st} {Q : QT} {X} : @wpI _ (addT (.nd .lst o xs) (.nd .lst o' ys) st) ⟨Q⟩ ⟨X⟩ = (lenOk (xs.length + ys.length) = true ∧ Q (.nd .lst (joinOw o o') (xs ++ ys)) st) := by
  simp only [↓wp_def, ↓wpS_def, ↓asO_def, ↓asB_def, ↓br_def, addT, catT, nodeOf_nd, wp_ite_bad, wp_ok]
@[simp] theorem catT_tup {xs ys st} {Q : QT} {X} : @wpI _ (addT (.nd .tup .fz xs) (.nd .tup .fz ys) st) ⟨Q⟩ ⟨X⟩ = (lenOk (xs.length + ys.length) = true ∧ Q (.nd .tup .fz (xs ++ ys)) st) := by
  simp only [↓wp_def, ↓wpS_def, ↓asO_def, ↓asB_def, ↓br_def, addT, catT, nodeOf_nd, wp_ite_bad, wp_ok]
@[simp] theorem joinOw_1 : joinOw .own .own = .own := nrfl rfl
@[simp] theorem joinOw_2 : joinOw .fz .own = .own := nrfl rfl
@[simp] theorem joinOw_3 : joinOw .own .fz = .own := nrfl rfl
@[simp] theorem joinOw_4 : joinOw .fz .fz = .own := nrfl rfl
@[simp] theorem listB_nd {st o xs} : listB st (.nd .lst o xs) = true := nrfl rfl
@[simp] theorem listB_scr {st o xs} : listB st (.nd .scr o xs) = true := nrfl rfl
def listBC (c : Option T) : Bool := match c with
  | some (.nd .lst _ _) => true
  | some (.nd .scr _ _) => true
  | _ => false
@[simp] theorem listBC_lst {o xs} : listBC (some (.nd .lst o xs)) = true := nrfl rfl
@[simp] theorem listB_ref {st : Store} {k} : listB st (.ref k) = listBC st[k]? := by
  simp only [listB, nodeOf, listBC]
  cases st[k]? with
  | none => rfl
  | some t => cases t <;> first | rfl | (rename_i g o xs; cases g <;> rfl)
@[simp] theorem tupB_nd {st o xs} : tupB st (.nd .tup o xs) = true := nrfl rfl
@[simp] theorem tupB_lst {st o xs} : tupB st (.nd .lst o xs) = false := nrfl rfl
@[simp] theorem listB_tup {st o xs} : listB st (.nd .tup o xs) = false := nrfl rfl
@[simp] theorem zipT_len {c : Bool} {xs ys : List T} : (zipT c xs ys).length = min xs.length ys.length := by
  induction xs generalizing ys with
  | nil => simp [zipT]
  | cons a xs ih =>
    cases ys with
    | nil => simp [zipT]
    | cons b ys => simp [zipT, ih]
@[simp] theorem enumT_len {c : Bool} {k : Nat} {xs : List T} : (enumT c k xs).length = xs.length := by
  induction xs generalizing k with
  | nil => rfl
  | cons a xs ih => simp [enumT, ih]
@[simp] theorem pairT_t {xs} : pairT true xs = .nd .tup .fz xs := nrfl rfl
@[simp] theorem pairT_f {xs} : pairT false xs = .nd .tup .fzr xs := nrfl rfl
@[simp] theorem tupleT_fz {xs st} : tupleT (.nd .lst .fz xs) st = .ok (.nd .tup .fz xs) st := nrfl rfl
@[simp] theorem tupleT_own {xs st} : tupleT (.nd .lst .own xs) st = .ok (.nd .tup .fz xs) st := nrfl rfl
@[simp] theorem tupleT_tup {xs st} : tupleT (.nd .tup .fz xs) st = .ok (.nd .tup .fz xs) st := nrfl rfl
@[simp] theorem bmOk_n : bmOk .count = true := nrfl rfl
@[simp] theorem w_count {o xs k st} {Q : QT} {X} : @wpI _ (bmR .count (.nd .lst o xs) [.int k] st) ⟨Q⟩ ⟨X⟩ = asO (intsOf xs) (fun ns => Q (.int (ns.count k)) st) := by
  show wp (R.of (((lstOf st (.nd .lst o xs)).bind intsOf).map fun ns => .int (ns.count k)) st) Q X = _
  show wp (R.of ((intsOf xs).map fun ns => .int (ns.count k)) st) Q X = _
  cases intsOf xs <;> rfl
@[simp] theorem twoI_tup {o st x y} : twoI st (.nd .tup o [.int x, .int y]) = some (x, y) := nrfl rfl
@[simp] theorem binop_shl : binop .LShift = shlT := nrfl rfl
@[simp] theorem binop_shr : binop .RShift = shrT := nrfl rfl
@[simp] theorem binop_and : binop .BitAnd = andT := nrfl rfl
@[simp] theorem biop_repr : biop .repr = on1 reprT := nrfl rfl
@[simp] theorem biop_sorted : biop .sorted = on1 sortT := nrfl rfl
@[simp] theorem eqF_str {a b : Str} : eqF (.str a) (.str b) = decide (a = b) := by
  simp only [eqF]
  by_cases h : a = b <;> simp [h]
@[simp] theorem eqF_int {a b : Int} : eqF (.int a) (.int b) = decide (a = b) := by
  simp only [eqF]
  by_cases h : a = b <;> simp [h]
@[simp] theorem flatT_str {a} : flatT (.str a) = true := rfl
@[simp] theorem flatT_int {a} : flatT (.int a) = true := rfl
@[simp] theorem flatT_bl {a} : flatT (.bl a) = true := rfl
@[simp] theorem flatT_non : flatT .non = true := rfl
@[simp] theorem inR_str {n s o ys st} {Q : QT} {X} : @wpI _ (inR n (.str s) (.nd .tup o ys) st) ⟨Q⟩ ⟨X⟩ = (ys.all flatT = true ∧ Q (.bl (notO n (ys.any fun y => eqF y (.str s)))) st) := by
  simp only [inR, inT, nodeOf_nd, flatT_str, Bool.true_and]
  cases ys.all flatT <;> simp
@[simp] theorem inR_int {n s o ys st} {Q : QT} {X} : @wpI _ (inR n (.int s) (.nd .tup o ys) st) ⟨Q⟩ ⟨X⟩ = (ys.all flatT = true ∧ Q (.bl (notO n (ys.any fun y => eqF y (.int s)))) st) := by
  simp only [inR, inT, nodeOf_nd, flatT_int, Bool.true_and]
  cases ys.all flatT <;> simp
/-! ### pots -/
def pot (a b : Int) : T := .nd .lst .own [.int a, .int b]
def IsPot (st : Store) (k : Nat) : Prop := ∃ a b, st[k]? = some (pot a b)
/-- st', but for a pot in the cell k, is st0 with more cells behind -/
def PSx (st0 : Store) (k : Nat) (tl st : Store) : Prop := ∃ a b, k < st0.length ∧ st = st0.set k (pot a b) ++ tl
abbrev PS (st0 : Store) (k : Nat) (st : Store) : Prop := PSx st0 k [] st
theorem IsPot.start {st : Store} {k : Nat} (h : IsPot st k) : PS st k st := by
  obtain ⟨a, b, h⟩ := h
  refine ⟨a, b, (List.getElem?_eq_some_iff.mp h).1, ?_⟩
  rw [List.append_nil]
  apply List.ext_getElem?
  intro j
  by_cases e : k = j
  · subst e
    rw [h, List.getElem?_set_self (List.getElem?_eq_some_iff.mp h).1]
  · rw [List.getElem?_set_ne e]
theorem PSx.get {st0 tl st : Store} {k : Nat} (h : PSx st0 k tl st) : ∃ a b, st[k]? = some (pot a b) := by
  obtain ⟨a, b, hk, rfl⟩ := h
  refine ⟨a, b, ?_⟩
  rw [List.getElem?_append_left (by simpa using hk), List.getElem?_set_self hk]
theorem PSx.isPot {st0 tl st : Store} {k : Nat} (h : PSx st0 k tl st) : IsPot st k := h.get
theorem PSx.len {st0 tl st : Store} {k : Nat} (h : PSx st0 k tl st) : st.length = st0.length + tl.length := by
  obtain ⟨a, b, hk, rfl⟩ := h; simp
theorem PSx.lt {st0 tl st : Store} {k : Nat} (h : PSx st0 k tl st) : k < st0.length := h.choose_spec.choose_spec.1
theorem PSx.set {st0 tl st : Store} {k : Nat} (h : PSx st0 k tl st) (a b : Int) : PSx st0 k tl (st.set k (pot a b)) := by
  obtain ⟨a', b', hk, rfl⟩ := h
  exact ⟨a, b, hk, by rw [List.set_append_left _ _ (by simpa using hk), List.set_set]⟩
theorem PSx.trans {st0 tl st st' : Store} {k : Nat} (h : PSx st0 k tl st) (h' : PS st k st') : PSx st0 k tl st' := by
  obtain ⟨a, b, hk, rfl⟩ := h'
  rw [List.append_nil]
  exact h.set a b
theorem PSx.push {st0 tl st : Store} {k : Nat} (h : PSx st0 k tl st) (c : T) : PSx st0 k (tl ++ [c]) (st ++ [c]) := by
  obtain ⟨a, b, hk, rfl⟩ := h
  exact ⟨a, b, hk, by simp⟩
theorem PSx.take {st0 tl st : Store} {k : Nat} (h : PSx st0 k tl st) : PS st0 k (st.take st0.length) := by
  obtain ⟨a, b, hk, rfl⟩ := h
  refine ⟨a, b, hk, ?_⟩
  rw [List.append_nil, List.take_append_of_le_length (by simp), List.take_of_length_le (by simp)]
theorem PSx.cell {st0 tl st : Store} {k j : Nat} {c : T} (h : PSx st0 k tl st) (hj : tl[j]? = some c) : st[st0.length + j]? = some c := by
  obtain ⟨a, b, hk, rfl⟩ := h
  rw [List.getElem?_append_right (by simp)]
  simpa using hj
theorem PSx.upd {st0 tl st : Store} {k j : Nat} (h : PSx st0 k tl st) (c : T) : PSx st0 k (tl.set j c) (st.set (st0.length + j) c) := by
  obtain ⟨a, b, hk, rfl⟩ := h
  exact ⟨a, b, hk, by rw [List.set_append_right _ _ (by simp)]; simp⟩
/-- a def that draws from a pot -/
def Gen (P : Prog) (n f : Nat) (args : List T) (Post : T → Prop) : Prop := ∀ (st : Store) (k : Nat), IsPot st k → wp (callN P n f (.ref k :: args) st) (fun t st' => Post t ∧ PS st k st') nX
theorem Gen.use {P : Prog} {n f k : Nat} {args : List T} {Post : T → Prop} (g : Gen P n f args Post) {st0 tl st : Store} (h : PSx st0 k tl st) {Q : QT} {X : XT} (hq : ∀ t st', Post t → PSx st0 k tl st' → Q t st') : wp (callN P n f (.ref k :: args) st) Q X :=
  wp_call (g st k h.isPot) fun t st' ⟨p, q⟩ => hq t st' p (h.trans q)
section
variable {P : Prog}
theorem small_log {m : Int} (h : m.natAbs < 2 ^ 1000) : m.natAbs.log2 < 9000 := by
  by_cases e : m.natAbs = 0
  · rw [e]; decide
  · have := (Nat.log2_lt e).mpr h
    omega
@[simp] theorem mulOk_l {i j : Int} (h : i.natAbs < 2 ^ 64) : mulOk i j = true := by simp only [mulOk, h, decide_true, Bool.true_or]
@[simp] theorem mulOk_r {i j : Int} (h : j.natAbs < 2 ^ 64) : mulOk i j = true := by simp only [mulOk, h, decide_true, Bool.true_or, Bool.or_true]
@[simp] theorem log_lit {n : Nat} : (no_index (OfNat.ofNat n) : Int).natAbs.log2 = Nat.log2 n := nrfl rfl
theorem log_lt {m : Int} (h0 : 0 < m) (h : m < 10 ^ 70) : m.natAbs.log2 < 9000 := small_log (by omega)
/-- [gen(pot) for k in range(m)] -/
theorem comp_gen {n f i : Nat} {args : List T} {Post : T → Prop} (g : Gen P n f args Post) {xs : List T} {st0 tl st : Store} {k : Nat} (h : PSx st0 k tl st) {ec ee : Slots → Store → R T} {sl : Slots}
    (hc : ∀ t st, ec (sl.set i (some t)) st = .ok (.bl true) st) (he : ∀ t st, ee (sl.set i (some t)) st = callN P n f (.ref k :: args) st) (hf : ∀ t, Post t → Fz t)
    {Q : List T → Store → Prop} {X : XT} (hq : ∀ ys st', ys.length = xs.length → (∀ y ∈ ys, Post y) → PSx st0 k tl st' → Q ys st') : wp (compGo (compF ec ee false (.name i) sl) xs st) Q X := by
  refine wp_comp (fun j ys st' => ys.length = j ∧ (∀ y ∈ ys, Post y) ∧ PSx st0 k tl st') ⟨rfl, by simp, h⟩ (fun j x ys st' hx hI => ?_) (fun ys st' hI => hq ys st' hI.1 hI.2.1 hI.2.2)
  obtain ⟨h1, h2, h3⟩ := hI
  simp [hc, he]
  refine g.use h3 fun t st2 hp H => ?_
  have := hf t hp
  simp [compP, this]
  exact ⟨h1, fun y hy => hy.elim (h2 y) (fun e => e ▸ hp), H⟩
end
end PL
namespace PL
open PC
open PySem L2
structure Kd where
  w : Int
  h : Int
  v : Int
  m : Int
  t : Bool
def Kd.enc (k : Kd) : T := .nd .tup .fz [.int k.w, .int k.h, .int k.v, .int k.m, .bl k.t]
def Kd.encL (k : Kd) : T := .nd .lst .fz [.int k.w, .int k.h, .int k.v, .int k.m, .bl k.t]
structure Kd.Ok (k : Kd) : Prop where
  w1 : 1 ≤ k.w
  w2 : k.w < 10 ^ 60
  h1 : 1 ≤ k.h
  h2 : k.h < 10 ^ 60
  v1 : 0 ≤ k.v
  v2 : k.v < 10 ^ 60
  m1 : 0 ≤ k.m
  m2 : k.m < 10 ^ 60
@[simp] theorem Fz_enc {k : Kd} : Fz k.enc = True := eq_true fun _ => rfl
@[simp] theorem Fz_encL {k : Kd} : Fz k.encL = True := eq_true fun _ => rfl
section
variable {P : Prog}
end
end PL
namespace PL
open PC
open PySem L2
/-! ### isinstance -/
@[simp] theorem bt_non {st} : btOf st .non = some .non := nrfl rfl
@[simp] theorem bt_bl {st b} : btOf st (.bl b) = some .bool := nrfl rfl
@[simp] theorem bt_int {st b} : btOf st (.int b) = some .int := nrfl rfl
@[simp] theorem bt_str {st b} : btOf st (.str b) = some .str := nrfl rfl
@[simp] theorem bt_lst {st o xs} : btOf st (.nd .lst o xs) = some .list := nrfl rfl
@[simp] theorem bt_tup {st o xs} : btOf st (.nd .tup o xs) = some .tuple := nrfl rfl
@[simp] theorem bt_dic {st ks o xs} : btOf st (.nd (.dic ks) o xs) = some .dict := nrfl rfl
def btC (c : Option T) : Option BT := match c with
  | some (.nd .lst _ _) => some .list
  | some (.nd .tup _ _) => some .tuple
  | some (.nd (.dic _) _ _) => some .dict
  | _ => none
@[simp] theorem btC_lst {o xs} : btC (some (.nd .lst o xs)) = some .list := nrfl rfl
@[simp] theorem bt_ref {st : Store} {k} : btOf st (.ref k) = btC st[k]? := by
  simp only [btOf, nodeOf, btC]
  cases st[k]? with
  | none => rfl
  | some t => cases t <;> first | rfl | (rename_i g o xs; cases g <;> rfl)
@[simp] theorem isTy_int {P st t} : isTy P st t .int = (btOf st t).map (isB · .int) := nrfl rfl
@[simp] theorem isTy_bool {P st t} : isTy P st t .bool = (btOf st t).map (isB · .bool) := nrfl rfl
@[simp] theorem isTy_str {P st t} : isTy P st t .str = (btOf st t).map (isB · .str) := nrfl rfl
@[simp] theorem isTy_list {P st t} : isTy P st t .list = (btOf st t).map (isB · .list) := nrfl rfl
@[simp] theorem isTy_tuple {P st t} : isTy P st t .tuple = (btOf st t).map (isB · .tuple) := nrfl rfl
@[simp] theorem isTy_dict {P st t} : isTy P st t .dict = (btOf st t).map (isB · .dict) := nrfl rfl
@[simp] theorem isTys_nil {P st t} : isTys P st t [] = some false := nrfl rfl
@[simp ↓ high] theorem asO_isTys {P st t c cs} {f : Bool → Prop} : @asOI _ (isTys P st t (c :: cs)) ⟨f⟩ = asO (isTy P st t c) fun b => br b (f true) (asO (isTys P st t cs) f) := by
  simp only [isTys]
  cases isTy P st t c with
  | none => rfl
  | some b => cases b <;> simp
@[simp] theorem isB_eq {a b : BT} : isB a b = ((decide (a = .bool) && decide (b = .int)) || decide (a = b)) := by
  cases a <;> cases b <;> rfl
@[simp] theorem isNop_nop : isNop .nop = true := nrfl rfl
@[simp] theorem isNop_lit {t} : isNop (.lit t) = false := nrfl rfl
@[simp] theorem isNop_var {t} : isNop (.var t) = false := nrfl rfl
@[simp] theorem isNop_bin {op a b} : isNop (.bin op a b) = false := nrfl rfl
@[simp] theorem isNop_call {op a} : isNop (.call op a) = false := nrfl rfl
@[simp] theorem isNop_bi {op a} : isNop (.bi op a) = false := nrfl rfl
@[simp] theorem isNop_idx {op a} : isNop (.idx op a) = false := nrfl rfl
@[simp] theorem isNop_neg {op} : isNop (.neg op) = false := nrfl rfl
@[simp] theorem isNop_glb {op a} : isNop (.glb op a) = false := nrfl rfl
@[simp] theorem partOf_t {t} : partOf true t = some none := nrfl rfl
@[simp] theorem partOf_int {i} : partOf false (.int i) = some (some i) := nrfl rfl
@[simp] theorem slcT_lst {o xs lo hi st} : slcT (.nd .lst o xs) lo hi st = .ok (.nd .lst (copyOw o) (cutT xs lo hi)) st := nrfl rfl
@[simp] theorem slcT_scr {o xs lo hi st} : slcT (.nd .scr o xs) lo hi st = .ok (.nd .lst (copyOw o) (cutT xs lo hi)) st := nrfl rfl
@[simp] theorem slcT_tup {xs lo hi st} : slcT (.nd .tup .fz xs) lo hi st = .ok (.nd .tup .fz (cutT xs lo hi)) st := nrfl rfl
@[simp] theorem copyOw_fz : copyOw .fz = .own := nrfl rfl
@[simp] theorem copyOw_own : copyOw .own = .own := nrfl rfl
theorem cutT_any {xs : List T} {n : Nat} : cutT xs none (some (n : Int)) = xs.take n := by
  have hn : ¬ ((n : Int) < 0) := by omega
  simp [cutT, HT.sIx, hn]
@[simp] theorem cutT_lit {xs : List T} {n : Nat} : cutT xs none (some (no_index (OfNat.ofNat n) : Int)) = xs.take n := cutT_any (n := n)
@[simp] theorem cutT_one {xs : List T} : cutT xs none (some (1 : Int)) = xs.take 1 := cutT_any (n := 1)
@[simp] theorem cutT_lit2 {xs : List T} {n m : Nat} : cutT xs (some (no_index (OfNat.ofNat n) : Int)) (some (no_index (OfNat.ofNat m) : Int)) = (xs.take m).drop n := by
  show cutT xs (some (n : Int)) (some (m : Int)) = _
  have hn : ¬ ((n : Int) < 0) := by omega
  have hm : ¬ ((m : Int) < 0) := by omega
  simp [cutT, HT.sIx, hn, hm, List.drop_take]
  by_cases h : m ≤ xs.length
  · by_cases h2 : n ≤ xs.length
    · rw [Nat.min_eq_left h, Nat.min_eq_left h2]
    · rw [Nat.min_eq_left h, Nat.min_eq_right (by omega), List.drop_of_length_le (Nat.le_refl _), List.drop_of_length_le (by omega)]; simp
  · by_cases h2 : n ≤ xs.length
    · rw [Nat.min_eq_right (by omega), Nat.min_eq_left h2, List.take_of_length_le (by simp), List.take_of_length_le (by simp; omega)]
    · rw [Nat.min_eq_right (by omega : xs.length ≤ n), List.drop_of_length_le (Nat.le_refl _), List.drop_of_length_le (by omega)]; simp
theorem cutT_from {xs : List T} {n : Nat} : cutT xs (some (n : Int)) none = xs.drop n := by
  have hn : ¬ ((n : Int) < 0) := by omega
  simp [cutT, HT.sIx, hn]
  by_cases h : n ≤ xs.length
  · rw [Nat.min_eq_left h, List.take_of_length_le (by simp)]
  · rw [Nat.min_eq_right (by omega), List.drop_of_length_le (Nat.le_refl _), List.drop_of_length_le (by omega)]; simp
@[simp] theorem cutT_fromL {xs : List T} {n : Nat} : cutT xs (some (no_index (OfNat.ofNat n) : Int)) none = xs.drop n := cutT_from (n := n)
@[simp] theorem walked_fz {xs st} : walked (.nd .lst .fz xs) st = some (xs, true, [], st) := nrfl rfl
@[simp] theorem walked_own {xs st} : walked (.nd .lst .own xs) st = some (xs, true, [], st) := nrfl rfl
@[simp] theorem walked_opn {xs st} (h : xs.all flat0 = true) : walked (.nd .lst .opn xs) st = some (xs, false, [], st) := by simp only [walked, h, if_true]
@[simp] theorem walked_tup {xs st} : walked (.nd .tup .fz xs) st = some (xs, true, [], st) := nrfl rfl
@[simp] theorem walked_scr {xs st} : walked (.nd .scr .fz xs) st = some (xs, true, [], st) := nrfl rfl
@[simp] theorem lstOf_lst {o xs st} : lstOf st (.nd .lst o xs) = some xs := nrfl rfl
@[simp] theorem bools_nil : boolsOf [] = some [] := nrfl rfl
@[simp] theorem bools_cons {b xs} : boolsOf (.bl b :: xs) = (boolsOf xs).map (b :: ·) := nrfl rfl
theorem bools_map {α : Type} {f : α → Bool} {xs : List α} : boolsOf (xs.map fun x => .bl (f x)) = some (xs.map f) := by
  induction xs with
  | nil => rfl
  | cons x xs ih => simp [ih]
@[simp] theorem ints_nil : intsOf [] = some [] := nrfl rfl
@[simp] theorem ints_cons {b xs} : intsOf (.int b :: xs) = (intsOf xs).map (b :: ·) := nrfl rfl
@[simp] theorem w_all {o xs st} {Q : QT} {X} : @wpI _ (allT (.nd .lst o xs) st) ⟨Q⟩ ⟨X⟩ = asO (boolsOf xs) fun bs => Q (.bl (bs.all id)) st := by
  simp only [↓wp_def, ↓wpS_def, ↓asO_def, ↓asB_def, ↓br_def, allT, lstOf_lst, wp_of, Option.bind_some]
  cases boolsOf xs <;> rfl
@[simp] theorem w_any {o xs st} {Q : QT} {X} : @wpI _ (anyT (.nd .lst o xs) st) ⟨Q⟩ ⟨X⟩ = asO (boolsOf xs) fun bs => Q (.bl (bs.any id)) st := by
  simp only [↓wp_def, ↓wpS_def, ↓asO_def, ↓asB_def, ↓br_def, anyT, lstOf_lst, wp_of, Option.bind_some]
  cases boolsOf xs <;> rfl
@[simp] theorem w_sum {o xs st} {Q : QT} {X} : @wpI _ (sumT (.nd .lst o xs) st) ⟨Q⟩ ⟨X⟩ = asO (intsOf xs) fun bs => Q (.int bs.sum) st := by
  simp only [↓wp_def, ↓wpS_def, ↓asO_def, ↓asB_def, ↓br_def, sumT, lsqOf_lst, wp_of, Option.bind_some]
  cases intsOf xs <;> rfl
@[simp] theorem w_sumT {o xs st} {Q : QT} {X} : @wpI _ (sumT (.nd .tup o xs) st) ⟨Q⟩ ⟨X⟩ = asO (intsOf xs) fun bs => Q (.int bs.sum) st := by
  simp only [↓wp_def, ↓wpS_def, ↓asO_def, ↓asB_def, ↓br_def, sumT, lsqOf_tup, wp_of, Option.bind_some]
  cases intsOf xs <;> rfl
@[simp] theorem w_extendT {k o xs st} : bmR .extend (.ref k) [.nd .tup o xs] st = extC st[k]? k o xs st := nrfl rfl
@[simp] theorem comp_nil {f : T → Store → R (Option T)} {st} : compGo f [] st = .ok [] st := nrfl rfl
@[simp ↓] theorem w_comp_cons {f : T → Store → R (Option T)} {x xs st} {Q : List T → Store → Prop} {X} : @wpI _ (compGo f (x :: xs) st) ⟨Q⟩ ⟨X⟩ = wp (f x st) (fun o st => wp (compGo f xs st) (fun ys st => Q (o.toList ++ ys) st) X) X := by
  simp only [↓wp_def, ↓wpS_def, ↓asO_def, ↓asB_def, ↓br_def, compGo, wp_bind, wp_ok]
  refine wpQ fun o st => ?_; simp only [↓wp_def, wp_bind, wp_ok]; refine wpQ fun ys st => ?_
  cases o <;> rfl
@[simp] theorem w_compP {y st} {Q : Option T → Store → Prop} {X} : @wpI _ (compP false y st) ⟨Q⟩ ⟨X⟩ = wp (fzR y st) (fun y st => Q (some y) st) X := by
  simp only [compP, fzR]
  cases fz y st <;> simp
@[simp] theorem w_compPt {y st} {Q : Option T → Store → Prop} {X} : @wpI _ (compP true y st) ⟨Q⟩ ⟨X⟩ = Q (some y) st := by
  simp only [compP]; rfl
section
variable {P : Prog}
theorem is_whole_int [C_is_whole P] (n : Nat) (i l : Int) (st : Store) : callN P (n + 1) 0 [.int i, .int l] st = .ok (.bl (decide (l ≤ i))) st := by
  refine wp_eq (wp_fn C_is_whole.f0 rfl ?_)
  simp [F_is_whole]
theorem is_whole_bt [C_is_whole P] (n : Nat) (t : T) (l : Int) (st : Store) (b : BT) (h : btOf st t = some b) (hb : b ≠ .int) : callN P (n + 1) 0 [t, .int l] st = .ok (.bl false) st := by
  refine wp_eq (wp_fn C_is_whole.f0 rfl ?_)
  cases b <;> first | exact absurd rfl hb | simp [F_is_whole, h]
theorem is_listed_ok [C_is_listed P] (n : Nat) (t : T) (lo hi : Int) (st : Store) (g : Tag) (o : Ow) (xs : List T) (hn : nodeOf st t = some (g, o, xs)) (hg : g = .lst ∨ g = .tup) :
    callN P (n + 1) 1 [t, .int lo, .int hi] st = .ok (.bl (decide (lo ≤ xs.length) && decide ((xs.length : Int) ≤ hi))) st := by
  have hb : btOf st t = some .list ∨ btOf st t = some .tuple := by
    cases t <;> first | (simp [nodeOf] at hn; done) | (rcases hg with rfl | rfl <;> simp [btOf, hn])
  have hl : lenT t st = .ok (.int xs.length) st := by
    cases t <;> first | (simp [nodeOf] at hn; done) | (rcases hg with rfl | rfl <;> simp [lenT, lenN, hn])
  refine wp_eq (wp_fn C_is_listed.f1 rfl ?_)
  rcases hb with hb | hb <;> simp [F_is_listed, hb, hl] <;> by_cases h : lo ≤ xs.length <;> simp [h] <;> omega
theorem is_listed_bt [C_is_listed P] (n : Nat) (t : T) (lo hi : Int) (st : Store) (b : BT) (h : btOf st t = some b) (hb : b ≠ .list) (hb2 : b ≠ .tuple) : callN P (n + 1) 1 [t, .int lo, .int hi] st = .ok (.bl false) st := by
  refine wp_eq (wp_fn C_is_listed.f1 rfl ?_)
  cases b <;> first | exact absurd rfl hb | exact absurd rfl hb2 | simp [F_is_listed, h]
/-- a kind, as handed in -/
inductive KdR (st : Store) : T → Kd → Prop where
  | tup (k : Kd) : KdR st k.enc k
  | lst (k : Kd) : KdR st k.encL k
  | ref {j : Nat} (k : Kd) (h : st[j]? = some (.nd .lst .own [.int k.w, .int k.h, .int k.v, .int k.m, .bl k.t])) : KdR st (.ref j) k
/-! ### shops -/
end
structure Sh where
  bl : Int
  ks : List Kd
def Sh.fn : List Str := ["blade_width", "rows"]
def Sh.enc (s : Sh) : T := .nd (.obj 14 Sh.fn) .fz [.int s.bl, .nd .lst .fz (s.ks.map Kd.enc)]
structure Sh.Ok (s : Sh) : Prop where
  b1 : 0 ≤ s.bl
  b2 : s.bl < 10 ^ 60
  l1 : 1 ≤ s.ks.length
  l2 : s.ks.length ≤ 8
  ks : ∀ k ∈ s.ks, k.Ok
@[simp] theorem Fz_sh {s : Sh} : Fz s.enc = True := eq_true fun _ => rfl
@[simp] theorem class_sh {s : Sh} {st} : classOf st s.enc = some 14 := nrfl rfl
@[simp] theorem leave_sh {n st} {s : Sh} : leaveT n s.enc st = .ok s.enc (st.take n) := nrfl rfl
@[simp] theorem leave_kd {n st} {s : Kd} : leaveT n s.enc st = .ok s.enc (st.take n) := nrfl rfl
@[simp] theorem fld_rows {s : Sh} {st} : fldT s.enc "rows" st = .ok (.nd .lst .fz (s.ks.map Kd.enc)) st := nrfl rfl
@[simp] theorem fld_blade {s : Sh} {st} : fldT s.enc "blade_width" st = .ok (.int s.bl) st := nrfl rfl
@[simp] theorem listT_fz {xs st} : listT (.nd .lst .fz xs) st = .ok (.nd .lst .own xs) st := nrfl rfl
@[simp] theorem listT_tup {xs st} : listT (.nd .tup .fz xs) st = .ok (.nd .lst .own xs) st := nrfl rfl
section
variable {P : Prog}
theorem blade_ok [C_Shop_blade P] (n : Nat) (s : Sh) (st : Store) : callN P (n + 1) 4 [s.enc] st = .ok (.int s.bl) st := by
  refine wp_eq (wp_fn C_Shop_blade.f4 rfl ?_)
  simp [F_Shop_blade]
theorem kinds_ok [C_Shop_kinds P] (n : Nat) (s : Sh) (st : Store) : callN P (n + 1) 5 [s.enc] st = .ok (.nd .lst .own (s.ks.map Kd.enc)) st := by
  refine wp_eq (wp_fn C_Shop_kinds.f5 rfl ?_)
  simp [F_Shop_kinds]
theorem KdR.fza {st : Store} {t : T} {k : Kd} (h : KdR st t k) (st' : Store) : fzaR t st' = .ok t st' := by
  cases h <;> simp
def cellFld (P : Prog) (c : Option T) (k : Nat) (f : Str) (t : T) (st : Store) : R T := match c with
  | some (.nd (.obj c fn) .own xs) => if fn.length < 1000 && P.flds.any (fun q => decide (q = (c, f))) then .ok .non (st.set k (.nd (.obj c (setF f t fn xs).1) .own (setF f t fn xs).2)) else .bad
  | _ => .bad
@[simp ↓] theorem w_setFld {k f t st} {Q : QT} {X} : @wpI _ (setFld P (.ref k) f t st) ⟨Q⟩ ⟨X⟩ = wp (fzR t st) (fun t st => wp (cellFld P st[k]? k f t st) Q X) X := by
  simp only [setFld, fzR]
  cases fz t st <;> rfl
@[simp] theorem cellFld_own {c fn xs k f t st} {Q : QT} {X} : @wpI _ (cellFld P (some (.nd (.obj c fn) .own xs)) k f t st) ⟨Q⟩ ⟨X⟩ = ((fn.length < 1000 ∧ P.flds.any (fun q => decide (q = (c, f))) = true) ∧ Q .non (st.set k (.nd (.obj c (setF f t fn xs).1) .own (setF f t fn xs).2))) := by
  simp only [↓wp_def, ↓wpS_def, ↓asO_def, ↓asB_def, ↓br_def, cellFld, wp_ite_bad, wp_ok, Bool.and_eq_true, decide_eq_true_eq]
end
end PL
namespace PL
open PC
open PySem L2
/-- closed data -/
abbrev dT (t : T) : Option PyData := toD (fun _ => none) t
abbrev dTs (xs : List T) : Option (List PyData) := toDs (fun _ => none) xs
theorem dTs_map {α : Type} {f : α → T} {g : α → PyData} (h : ∀ a, dT (f a) = some (g a)) (xs : List α) : dTs (xs.map f) = some (xs.map g) := by
  induction xs with
  | nil => rfl
  | cons x xs ih =>
    show toDs _ (f x :: xs.map f) = _
    have e1 : toD (fun _ => none) (f x) = some (g x) := h x
    have e2 : toDs (fun _ => none) (xs.map f) = some (xs.map g) := ih
    simp only [toDs, e1, e2, List.map_cons]
theorem eqT_data {st : Store} {x y : T} {d e : PyData} (hs : scalT x y = none) (hx : dataOf st x = some d) (hy : dataOf st y = some e) (h1 : SeqAt.shaped d = true) (h2 : SeqAt.shaped e = true) : PC.eqT st x y = some (PyData.eqv d e) := by
  unfold PC.eqT
  rw [hs, hx, hy]
  simp [h1, h2]
theorem eqT_same {st : Store} {x y : T} {d : PyData} (hs : scalT x y = none) (hx : dataOf st x = some d) (hy : dataOf st y = some d) (h1 : SeqAt.shaped d = true) : PC.eqT st x y = some true := by
  rw [eqT_data hs hx hy h1 h1, SeqAt.eqv_refl d (SeqAt.canLay_of_shaped h1)]
def Kd.D (k : Kd) : PyData := .tuple [.int k.w, .int k.h, .int k.v, .int k.m, .bool k.t]
@[simp] theorem Kd.dT (k : Kd) : PL.dT k.enc = some k.D := nrfl rfl
@[simp] theorem eqT_nil {st o o'} : PC.eqT st (.nd .lst o []) (.nd .lst o' []) = some true := eqT_same (d := .list []) rfl rfl rfl rfl
end PL
namespace PL
open PC
open PySem L2
/-! ### lyings, sides -/
def Kd.may (k : Kd) (t : Bool) : Bool := !t || (k.t && decide (k.w ≠ k.h))
def Kd.sw (k : Kd) (t : Bool) : Int := if t then k.h else k.w
def Kd.sh (k : Kd) (t : Bool) : Int := if t then k.w else k.h
def Sh.may (s : Sh) (k : Nat) (t : Bool) : Bool := match s.ks[k]? with
  | some kd => kd.may t
  | none => false
@[simp] theorem ne_rest_piece : ((Str.ofString "rest") = (Str.ofString "piece")) = False := eq_false (by decide)
@[simp] theorem ne_rest_down : ((Str.ofString "rest") = (Str.ofString "down")) = False := eq_false (by decide)
@[simp] theorem ne_rest_across : ((Str.ofString "rest") = (Str.ofString "across")) = False := eq_false (by decide)
@[simp] theorem ne_piece_rest : ((Str.ofString "piece") = (Str.ofString "rest")) = False := eq_false (by decide)
@[simp] theorem ne_piece_down : ((Str.ofString "piece") = (Str.ofString "down")) = False := eq_false (by decide)
@[simp] theorem ne_piece_across : ((Str.ofString "piece") = (Str.ofString "across")) = False := eq_false (by decide)
@[simp] theorem ne_down_rest : ((Str.ofString "down") = (Str.ofString "rest")) = False := eq_false (by decide)
@[simp] theorem ne_down_piece : ((Str.ofString "down") = (Str.ofString "piece")) = False := eq_false (by decide)
@[simp] theorem ne_down_across : ((Str.ofString "down") = (Str.ofString "across")) = False := eq_false (by decide)
@[simp] theorem ne_across_rest : ((Str.ofString "across") = (Str.ofString "rest")) = False := eq_false (by decide)
@[simp] theorem ne_across_piece : ((Str.ofString "across") = (Str.ofString "piece")) = False := eq_false (by decide)
@[simp] theorem ne_across_down : ((Str.ofString "across") = (Str.ofString "down")) = False := eq_false (by decide)
inductive Tr where
  | rest | piece (k : Nat) (t : Bool) (x y : Int) | cut (d : Bool) (p : Int) (a b : Tr)
def wayS (d : Bool) : Str := if d then Str.ofString "down" else Str.ofString "across"
/-- a node: a tuple or a list -/
def nodeX (l : Bool) (xs : List T) : T := .nd (if l then .lst else .tup) .fz xs
def Tr.enc (l : Bool) : Tr → T
  | .rest => nodeX l [.str (Str.ofString "rest")]
  | .piece k t x y => nodeX l [.str (Str.ofString "piece"), .int k, .bl t, .int x, .int y]
  | .cut d p a b => nodeX l [.str (wayS d), .int p, a.enc l, b.enc l]
/-- the sides of the first, the second part of a cut -/
def fstW (d : Bool) (w p : Int) : Int := if d then p else w
def fstH (d : Bool) (h p : Int) : Int := if d then h else p
def sndW (s : Sh) (d : Bool) (w p : Int) : Int := if d then w - (p + s.bl) else w
def sndH (s : Sh) (d : Bool) (h p : Int) : Int := if d then h else h - (p + s.bl)
def Tr.Ok (s : Sh) : Tr → Int → Int → Prop
  | .rest, _, _ => True
  | .piece k t x y, w, h => ∃ kd, s.ks[k]? = some kd ∧ kd.may t = true ∧ 0 ≤ x ∧ 0 ≤ y ∧ x + kd.sw t ≤ w ∧ y + kd.sh t ≤ h
  | .cut d p a b, w, h => 1 ≤ p ∧ p + s.bl < (if d then w else h) ∧ a.Ok s (fstW d w p) (fstH d h p) ∧ b.Ok s (sndW s d w p) (sndH s d h p)
def Tr.dep : Tr → Nat
  | .rest => 0
  | .piece .. => 0
  | .cut _ _ a b => max a.dep b.dep + 1
@[simp] theorem Fz_nodeX {l xs} : Fz (nodeX l xs) = True := by cases l <;> simp [nodeX]
@[simp] theorem Fz_tr {l} {t : Tr} : Fz (t.enc l) = True := by cases t <;> simp [Tr.enc]
@[simp] theorem leave_nodeX {n l xs st} : leaveT n (nodeX l xs) st = .ok (nodeX l xs) (st.take n) := by cases l <;> rfl
@[simp] theorem leave_tr {n l} {t : Tr} {st} : leaveT n (t.enc l) st = .ok (t.enc l) (st.take n) := by cases t <;> simp [Tr.enc]
@[simp] theorem idx_nodeX {l xs i st} : idxT (nodeX l xs) (.int i) st = R.of (L2.atI xs i) st := by cases l <;> rfl
@[simp] theorem len_nodeX {l xs st} : lenT (nodeX l xs) st = .ok (.int xs.length) st := by cases l <;> rfl
@[simp] theorem isStrT_nodeX {l xs} : isStrT (nodeX l xs) = false := by cases l <;> rfl
@[simp] theorem seq_nodeX {xs st} : seqOf st (nodeX false xs) = some xs := rfl
theorem node_nodeX {l xs st} : ∃ g, nodeOf st (nodeX l xs) = some (g, .fz, xs) ∧ (g = .lst ∨ g = .tup) := by cases l <;> exact ⟨_, rfl, by simp⟩
section
variable {P : Prog}
@[simp] theorem kinds_simp [C_Shop_kinds P] (n : Nat) (s : Sh) (st : Store) : callN P (n + 1) 5 [s.enc] st = .ok (.nd .lst .own (s.ks.map Kd.enc)) st := kinds_ok n s st
@[simp] theorem blade_simp [C_Shop_blade P] (n : Nat) (s : Sh) (st : Store) : callN P (n + 1) 4 [s.enc] st = .ok (.int s.bl) st := blade_ok n s st
@[simp] theorem cutT_node {xs : List T} {n : Nat} : cutT xs (some (no_index (OfNat.ofNat n) : Int)) none = xs.drop n := cutT_from (n := n)
@[simp] theorem way_r (d : Bool) : (wayS d = Str.ofString "rest") = False := by cases d <;> simp [wayS]
@[simp] theorem way_p (d : Bool) : (wayS d = Str.ofString "piece") = False := by cases d <;> simp [wayS]
@[simp] theorem way_r' (d : Bool) : (Str.ofString "rest" = wayS d) = False := by cases d <;> simp [wayS]
@[simp] theorem way_p' (d : Bool) : (Str.ofString "piece" = wayS d) = False := by cases d <;> simp [wayS]
@[simp] theorem way_d (d : Bool) : (wayS d = Str.ofString "down") = (d = true) := by cases d <;> simp [wayS]
@[simp] theorem way_a (d : Bool) : (wayS d = Str.ofString "across") = (d = false) := by cases d <;> simp [wayS]
@[simp] theorem way_d' (d : Bool) : (Str.ofString "down" = wayS d) = (d = true) := by cases d <;> simp [wayS]
@[simp] theorem way_a' (d : Bool) : (Str.ofString "across" = wayS d) = (d = false) := by cases d <;> simp [wayS]
@[simp] theorem way_t : wayS true = Str.ofString "down" := rfl
@[simp] theorem way_f : wayS false = Str.ofString "across" := rfl
@[simp] theorem slc_node {l xs lo hi st} : slcT (nodeX l xs) lo hi st = .ok (.nd (if l then .lst else .tup) (if l then .own else .fz) (cutT xs lo hi)) st := by cases l <;> rfl
end
end PL
namespace PL
open PC
open PySem L2
def Tr.leafN : Tr → Nat
  | .cut _ _ a b => a.leafN + b.leafN
  | _ => 1
structure Lf where
  x : Int
  y : Int
  w : Int
  h : Int
  t : Tr
def Lf.enc (l : Lf) : T := .nd .tup .fz [.int l.x, .int l.y, .int l.w, .int l.h, l.t.enc false]
@[simp] theorem Fz_lf {l : Lf} : Fz l.enc = True := eq_true fun _ => rfl
def Tr.leaves (s : Sh) : Tr → Int → Int → Int → Int → List Lf
  | .cut d p a b, x, y, w, h => a.leaves s x y (fstW d w p) (fstH d h p) ++ b.leaves s (if d then x + (p + s.bl) else x) (if d then y else y + (p + s.bl)) (sndW s d w p) (sndH s d h p)
  | t, x, y, w, h => [⟨x, y, w, h, t⟩]
section
variable {P : Prog}
end
/-! ### sorted -/
def sortX {α : Type} (D : α → PyData) (xs : List α) : List α := xs.mergeSort (fun a b => !PySem.W.dataLt (D b) (D a))
theorem sortX_perm {α : Type} (D : α → PyData) (xs : List α) : (sortX D xs).Perm xs := List.mergeSort_perm ..
@[simp] theorem sortX_len {α : Type} (D : α → PyData) (xs : List α) : (sortX D xs).length = xs.length := (sortX_perm D xs).length_eq
theorem sort_map {α : Type} (e : α → T) (D : α → PyData) (hd : ∀ a, dT (e a) = some (D a)) (xs : List α) (ok : sortOk (xs.map D) = true) (hl : xs.length < 100000) {o : Ow} (ho : closedOw o = true) (st : Store) :
    sortT (.nd .lst o (xs.map e)) st = .ok (.nd .lst .own ((sortX D xs).map e)) st := by
  have h1 : toDs (fun _ => none) (xs.map e) = some (xs.map D) := dTs_map hd xs
  simp only [sortT, nodeOf_nd, h1, ho, ok, lenOk_lt (show (xs.map e).length < 100000 by simpa using hl), Bool.and_self, if_true]
  have hz : (xs.map e).zip (xs.map D) = xs.map (fun a => (e a, D a)) := by
    clear h1 ok hl
    induction xs with
    | nil => rfl
    | cons x xs ih => simp [ih]
  rw [hz, ← List.map_mergeSort (r := fun a b => !PySem.W.dataLt (D b) (D a)) (s := sortLe) (f := fun a => (e a, D a)) (l := xs) (fun a _ b _ => rfl), List.map_map]
  rfl
theorem sortT_ref {st : Store} {k : Nat} {o : Ow} {xs : List T} (h : st[k]? = some (.nd .lst o xs)) : sortT (.ref k) st = sortT (.nd .lst o xs) st := by simp [sortT, h]
structure Pc where
  k : Nat
  t : Bool
  x : Int
  y : Int
def Pc.enc (p : Pc) : T := .nd .tup .fz [.int p.k, .bl p.t, .int p.x, .int p.y]
def Pc.D (p : Pc) : PyData := .tuple [.int p.k, .bool p.t, .int p.x, .int p.y]
def Lf.pc (l : Lf) : Option Pc := match l.t with
  | .piece k t x y => some ⟨k, t, l.x + x, l.y + y⟩
  | _ => none
section
variable {P : Prog}
end
end PL
namespace PL
open PC
open PySem L2
theorem log_bd {i : Int} (h : i.natAbs < 10 ^ 100) : i.natAbs.log2 < 1000 := by
  by_cases e : i.natAbs = 0
  · rw [e]; decide
  · have : (10 : Nat) ^ 100 < 2 ^ 1000 := by decide +kernel
    exact (Nat.log2_lt e).mpr (by omega)
theorem mulOk_bd {i j : Int} (hi : i.natAbs < 10 ^ 100) (hj : j.natAbs < 10 ^ 100) : mulOk i j = true := by
  have h1 := log_bd hi
  have h2 := log_bd hj
  simp only [mulOk, Bool.or_eq_true, decide_eq_true_eq]
  exact .inr (by omega)
/-- a piece's cells -/
def Lf.pa (s : Sh) (l : Lf) : Int := match l.t with
  | .piece k t _ _ => (match s.ks[k]? with
    | some kd => kd.sw t * kd.sh t
    | none => 0)
  | _ => 0
section
variable {P : Prog}
end
end PL
namespace PL
open PC
open PySem L2
theorem PSx.join {st0 tl tl' st st' : Store} {k : Nat} (h : PSx st0 k tl st) (h' : PSx st k tl' st') : PSx st0 k (tl ++ tl') st' := by
  obtain ⟨a, b, hk, rfl⟩ := h'
  obtain ⟨a', b', hk', e⟩ := h.set a b
  exact ⟨a', b', hk', by rw [e]; simp⟩
def fzRC (c : Option T) (k : Nat) (st : Store) : R T := match c with
    | some (.nd g .own xs) => .ok (.nd g .fz xs) (st.set k (.nd g .fz xs))
    | some (.nd g .fz xs) => .ok (.nd g .fz xs) st
    | _ => .bad
@[simp] theorem fzR_ref {k : Nat} {st : Store} : fzR (.ref k) st = fzRC st[k]? k st := by
  simp only [fzR, fz, fzRC]
  cases st[k]? with
  | none => rfl
  | some t => cases t <;> first | rfl | (rename_i g o xs; cases o <;> rfl)
@[simp] theorem fzRC_own {g xs k st} : fzRC (some (.nd g .own xs)) k st = .ok (.nd g .fz xs) (st.set k (.nd g .fz xs)) := nrfl rfl
@[simp] theorem fzRC_fz {g xs k st} : fzRC (some (.nd g .fz xs)) k st = .ok (.nd g .fz xs) st := nrfl rfl
def leaveC (c : Option T) (n : Nat) (st : Store) (k : Nat) : R T := match c with
    | some (.nd g .own xs) => .ok (.nd g .own xs) (st.take n)
    | some (.nd g .fz xs) => .ok (.nd g .fz xs) (st.take n)
    | some (.nd g .opn xs) => (match loadL n st [k] xs with
      | some ys => .ok (.nd g .opn ys) (st.take n)
      | none => .bad)
    | _ => .bad
theorem leaveT_ref {n k : Nat} {st : Store} (h : n ≤ k) : leaveT n (.ref k) st = leaveC st[k]? n st k := by
  have : ¬ k < n := by omega
  simp only [leaveT, this, if_false]
  rfl
@[simp] theorem leaveT_refS {st' st : Store} : leaveT st'.length (.ref st'.length) st = leaveC st[st'.length]? st'.length st st'.length := leaveT_ref (Nat.le_refl _)
@[simp] theorem leaveC_own {g xs n st k} : leaveC (some (.nd g .own xs)) n st k = .ok (.nd g .own xs) (st.take n) := nrfl rfl
@[simp] theorem leaveC_fz {g xs n st k} : leaveC (some (.nd g .fz xs)) n st k = .ok (.nd g .fz xs) (st.take n) := nrfl rfl
theorem wpS_mid {P : Prog} {cl : Nat → List T → Store → R T} {s : S} {ss : Ss} {sl : Slots} {st : Store} {N : Slots → Store → Prop} {Q : QT} {X} (M : Slots → Store → Prop) (h1 : wpS (evS P cl s sl st) M Q X) (h2 : ∀ sl st, M sl st → wpS (evSs P cl ss sl st) N Q X) : wpS (evSs P cl (.cons s ss) sl st) N Q X := by
  rw [wpS_def, w_scons]
  exact wpS_mono h1 h2 (fun _ _ h => h) (fun _ _ _ h => h)
section
variable {P : Prog}
/-- a kind's lying that fits -/
structure Ft where
  k : Nat
  t : Bool
  a : Int
  b : Int
def Ft.enc (f : Ft) : T := .nd .tup .fz [.int f.k, .bl f.t, .int f.a, .int f.b]
/-- a tree as a law asks for it -/
structure Tree (s : Sh) (w h : Int) (tr : Tr) : Prop where
  ok : tr.Ok s w h
  dep : tr.dep ≤ 10
  lf : tr.leafN ≤ 1024
def Tr.DX (l : Bool) : Tr → PyData
  | .rest => (if l then PyData.list else PyData.tuple) [.str (Str.ofString "rest")]
  | .piece k t x y => (if l then PyData.list else PyData.tuple) [.str (Str.ofString "piece"), .int k, .bool t, .int x, .int y]
  | .cut d p a b => (if l then PyData.list else PyData.tuple) [.str (wayS d), .int p, a.DX l, b.DX l]
theorem Tr.dT (l : Bool) : ∀ t : Tr, PL.dT (t.enc l) = some (t.DX l)
  | .rest => by cases l <;> rfl
  | .piece k t x y => by cases l <;> rfl
  | .cut d p a b => by
    have ha := Tr.dT l a
    have hb := Tr.dT l b
    cases l <;> simp only [PL.dT, Tr.enc, nodeX, toD, toDs, if_true, if_false, Bool.false_eq_true] at ha hb ⊢ <;> rw [ha, hb] <;> rfl
/-- the lesser shop -/
def Kd.less (k : Kd) : Kd := ⟨1 + (if k.w > k.h then 1 else 0), 1 + (if k.h > k.w then 1 else 0), (k.v + 1) % 10 ^ 60, k.m, k.t⟩
def Sh.less (s : Sh) : Sh := ⟨s.bl, s.ks.map Kd.less⟩
end
end PL
namespace PL
open PC
open PySem L2
theorem Kd.less_sides {k : Kd} (ok : k.Ok) {t : Bool} (m : k.may t = true) : k.less.may t = true ∧ k.less.sw t ≤ k.sw t ∧ k.less.sh t ≤ k.sh t := by
  obtain ⟨a1, a2, a3, a4, _⟩ := ok
  cases t
  · simp only [Kd.may, Kd.less, Kd.sw, Kd.sh, Bool.not_false, Bool.true_or, true_and, Bool.false_eq_true, if_false]
    constructor <;> split <;> omega
  · simp only [Kd.may, Bool.not_true, Bool.false_or, Bool.and_eq_true, decide_eq_true_eq] at m
    simp only [Kd.may, Kd.less, Kd.sw, Kd.sh, Bool.not_true, Bool.false_or, if_true, m.1, Bool.true_and, decide_eq_true_eq]
    refine ⟨?_, ?_, ?_⟩ <;> (repeat' split) <;> omega
theorem ok_less {s : Sh} (so : s.Ok) : ∀ (t : Tr) (w h : Int), t.Ok s w h → t.Ok s.less w h
  | .rest, _, _, _ => trivial
  | .piece k t x y, w, h, ⟨kd, e, m, x0, y0, hx, hy⟩ => by
    obtain ⟨m', q1, q2⟩ := Kd.less_sides (so.ks kd (List.mem_of_getElem? e)) m
    exact ⟨kd.less, by simp [Sh.less, e], m', x0, y0, by omega, by omega⟩
  | .cut d p a b, w, h, ⟨h1, h2, h3, h4⟩ => ⟨h1, h2, ok_less so a _ _ h3, ok_less so b _ _ h4⟩
theorem Tree.less {s : Sh} (so : s.Ok) {w h : Int} {t : Tr} (R : Tree s w h t) : Tree s.less w h t := ⟨ok_less so t w h R.ok, R.dep, R.lf⟩
section
variable {P : Prog}
end
end PL
namespace PL
open PC
open PySem L2
@[simp] theorem Fz_pc {p : Pc} : Fz p.enc = True := eq_true fun _ => rfl
@[simp] theorem isT_bl {n a b st} : isT n (.bl a) (.bl b) st = .ok (.bl (notO n (decide (a = b)))) st := nrfl rfl
@[simp] theorem isT_non {n a st} : isT n a .non st = .ok (.bl (notO n (isNon a))) st := by cases a <;> rfl
@[simp] theorem parSet_eq {i j x y sl st} : parSet i j [x, y] sl st = .nx ((sl.set i (some x)).set j (some y)) st := nrfl rfl
/-! ### sorted rows: one order alone -/
section
variable {α : Type} (D : α → PyData)
end
theorem Pc.inj (a b : Pc) (h : PySem.W.keyToks a.D = PySem.W.keyToks b.D) : a = b := by
  obtain ⟨k, t, x, y⟩ := a
  obtain ⟨k', t', x', y'⟩ := b
  simp [Pc.D, PySem.W.keyToks, PySem.W.keyToksAll] at h
  obtain ⟨h1, h2, h3, h4⟩ := h
  have ht : t = t' := by cases t <;> cases t' <;> simp at h2 <;> rfl
  have hk : k = k' := by omega
  rw [h3, h4, ht, hk]
end PL
namespace PL
open PC
open PySem L2
/-! ### things of any kind -/
inductive Th where
  | non | bl (b : Bool) | int (i : Int) | str (s : Str) | dic | nd (l : Bool) (xs : List Th)
mutual
def Th.enc : Th → T
  | .non => .non
  | .bl b => .bl b
  | .int i => .int i
  | .str s => .str s
  | .dic => .nd (.dic []) .fz []
  | .nd l xs => nodeX l (Th.encs xs)
def Th.encs : List Th → List T
  | [] => []
  | x :: xs => x.enc :: Th.encs xs
end
mutual
def Th.dep : Th → Nat
  | .nd _ xs => Th.deps xs + 1
  | _ => 0
def Th.deps : List Th → Nat
  | [] => 0
  | x :: xs => max x.dep (Th.deps xs)
end
theorem Th.encs_map : ∀ xs : List Th, Th.encs xs = xs.map Th.enc
  | [] => rfl
  | x :: xs => by simp [Th.encs, Th.encs_map xs]
@[simp] theorem Th.enc_nd {l xs} : (Th.nd l xs).enc = nodeX l (xs.map Th.enc) := by rw [Th.enc, Th.encs_map]
@[simp] theorem enc_non : Th.non.enc = .non := nrfl rfl
@[simp] theorem enc_bl {b} : (Th.bl b).enc = .bl b := nrfl rfl
@[simp] theorem enc_int {b} : (Th.int b).enc = .int b := nrfl rfl
@[simp] theorem enc_str {b} : (Th.str b).enc = .str b := nrfl rfl
@[simp] theorem Fz_th {t : Th} : Fz t.enc = True := by cases t <;> simp [Th.enc]
def Th.bt : Th → BT
  | .non => .non
  | .bl _ => .bool
  | .int _ => .int
  | .str _ => .str
  | .dic => .dict
  | .nd l _ => if l then .list else .tuple
@[simp] theorem bt_nodeX {st l xs} : btOf st (nodeX l xs) = some (if l then .list else .tuple) := by cases l <;> rfl
@[simp] theorem bt_th {st} {t : Th} : btOf st t.enc = some t.bt := by
  cases t with
  | nd l xs => cases l <;> simp [nodeX, Th.bt]
  | _ => rfl
/-- a whole number, l at least -/
def Th.whole (l : Int) : Th → Bool
  | .int i => decide (l ≤ i)
  | _ => false
section
variable {P : Prog}
def mayT (s : Sh) (k t : Th) : Bool := match k, t with
  | .int i, .bl b => decide (0 ≤ i) && s.may i.toNat b
  | _, _ => false
def fitT (s : Sh) (w h : Int) (k t x y : Th) : Bool := match k, t, x, y with
  | .int i, .bl b, .int x, .int y => (match s.ks[i.toNat]? with
    | some kd => decide (x + kd.sw b ≤ w) && decide (y + kd.sh b ≤ h)
    | none => false)
  | _, _, _, _ => false
def pieceT (s : Sh) (w h : Int) : List Th → Bool
  | [_, k, t, x, y] => mayT s k t && ((x.whole 0 && y.whole 0) && fitT s w h k t x y)
  | _ => false
def Th.listed : Th → Bool
  | .nd _ xs => decide (1 ≤ (xs.length : Int)) && decide ((xs.length : Int) ≤ 5)
  | _ => false
def sideD (d : Bool) (w h : Int) : Int := if d then w else h
def cutJ (s : Sh) (d : Bool) (w h : Int) (r1 r2 : Int → Th → Bool) : List Th → Bool
  | [.int p, t1, t2] => (decide (1 ≤ p) && decide (p + s.bl < sideD d w h)) && (r1 p t1 && r2 p t2)
  | _ => false
def isT (s : Sh) : Nat → Int → Int → Th → Bool
  | n + 1, w, h, .nd _ (.str a :: xs) =>
    if a = Str.ofString "rest" then decide (xs.length = 0)
    else if a = Str.ofString "piece" then pieceT s w h (.str a :: xs)
    else if a = Str.ofString "down" then cutJ s true w h (fun p t => isT s n p h t) (fun p t => isT s n (w - (p + s.bl)) h t) xs
    else if a = Str.ofString "across" then cutJ s false w h (fun p t => isT s n w p t) (fun p t => isT s n w (h - (p + s.bl)) t) xs
    else false
  | _, _, _, _ => false
@[simp] theorem slc_nodeX2 {l : Bool} {a b c d : T} {st} : slcT (nodeX l [a, b, c, d]) (some 2) none st = .ok (.nd (if l then .lst else .tup) (if l then .own else .fz) [c, d]) st := by cases l <;> rfl
end
end PL
namespace PL
open PC
open PySem L2
@[simp] theorem negT_int {i st} : negT (.int i) st = .ok (.int (-i)) st := nrfl rfl
@[simp] theorem strT_int {i st} {Q : QT} {X} : @wpI _ (strT (.int i) st) ⟨Q⟩ ⟨X⟩ = (i.natAbs.log2 < 1920 ∧ Q (.str (toString i)) st) := by
  simp only [strT, wp_ite_bad, wp_def, wp_ok]
/-! ### things: how wide they are; spoilt ones -/
mutual
/-- the greatest length in it -/
def Th.wid : Th → Nat
  | .str s => s.length
  | .nd _ xs => max xs.length (Th.wids xs)
  | _ => 0
def Th.wids : List Th → Nat
  | [] => 0
  | x :: xs => max x.wid (Th.wids xs)
end
@[simp] theorem leave_th {n : Nat} {t : Th} {st : Store} : leaveT n t.enc st = .ok t.enc (st.take n) := by
  refine leaveT_of (by simp) ?_
  intro k
  cases t with
  | nd l xs => cases l <;> simp [nodeX]
  | _ => simp [Th.enc]
@[simp] theorem leave_dic {n : Nat} {st : Store} : leaveT n (.nd (.dic []) .fz []) st = .ok (.nd (.dic []) .fz []) (st.take n) := nrfl rfl
/-- of a tree -/
def Tr.th (l : Bool) : Tr → Th
  | .rest => .nd l [.str (Str.ofString "rest")]
  | .piece k t x y => .nd l [.str (Str.ofString "piece"), .int k, .bl t, .int x, .int y]
  | .cut d p a b => .nd l [.str (wayS d), .int p, a.th l, b.th l]
/-! listed -/
mutual
def Th.lst : Th → Th
  | .nd false xs => .nd true (Th.lsts xs)
  | .nd true xs => .nd true xs
  | .non => .non
  | .bl b => .bl b
  | .int i => .int i
  | .str s => .str s
  | .dic => .dic
def Th.lsts : List Th → List Th
  | [] => []
  | x :: xs => x.lst :: Th.lsts xs
end
section
variable {P : Prog}
theorem wp_atI {L : List T} {r : Int} (h0 : 0 ≤ r) (h1 : r < L.length) {f : T → Prop} (h : ∀ x ∈ L, f x) : asO (L2.atI L r) f := by
  rw [atI_get h0]
  have hr : r.toNat < L.length := by omega
  rw [List.getElem?_eq_getElem hr]
  exact h _ (List.getElem_mem hr)
/-- a thing, so deep, so wide -/
def IsTh (d w : Nat) (t : T) : Prop := ∃ th : Th, t = th.enc ∧ th.dep ≤ d ∧ th.wid ≤ w
@[simp] theorem addT_ref {k y st} : addT (.ref k) y st = catT (.ref k) y st := by cases y <;> rfl
def catC (c : Option T) (y : Option (Tag × Ow × List T)) (st : Store) : R T := match cellN c, y with
  | some (.lst, o, xs), some (.lst, o', ys) => if lenOk (xs.length + ys.length) then .ok (.nd .lst (joinOw o o') (xs ++ ys)) st else .bad
  | some (.tup, .fz, xs), some (.tup, .fz, ys) => if lenOk (xs.length + ys.length) then .ok (.nd .tup .fz (xs ++ ys)) st else .bad
  | some (.scr, o, xs), some (.lst, o', ys) => if lenOk (xs.length + ys.length) && (closedOw o && closedOw o') then .ok (.nd .lst .own (xs ++ ys)) st else .bad
  | _, _ => .bad
@[simp] theorem catT_ref {k y st} : catT (.ref k) y st = catC st[k]? (nodeOf st y) st := by
  simp only [catT, nodeOf_ref, catC]
  all_goals generalize cellN st[k]? = a
  all_goals generalize nodeOf st y = b
  all_goals rcases a with _ | ⟨g, o, xs⟩ <;> rcases b with _ | ⟨g', o', ys⟩ <;> (try cases g) <;> (try cases g') <;> (try cases o) <;> (try cases o') <;> rfl
@[simp] theorem catC_lst {o o' xs ys st} {Q : QT} {X} : @wpI _ (catC (some (.nd .lst o xs)) (some (.lst, o', ys)) st) ⟨Q⟩ ⟨X⟩ = (lenOk (xs.length + ys.length) = true ∧ Q (.nd .lst (joinOw o o') (xs ++ ys)) st) := by
  simp only [↓wp_def, catC, cellN_some, wp_ite_bad, wp_ok]
@[simp] theorem addT_str {a b st} {Q : QT} {X} : @wpI _ (addT (.str a) (.str b) st) ⟨Q⟩ ⟨X⟩ = (lenOk (a.length + b.length) = true ∧ Q (.str (a ++ b)) st) := by
  simp only [↓wp_def, addT, wp_ite_bad, wp_ok]
@[simp] theorem slcT_str {z lo hi st} {Q : QT} {X} : @wpI _ (slcT (.str z) lo hi st) ⟨Q⟩ ⟨X⟩ = (lenOk z.length = true ∧ Q (.str (cutS z lo hi)) st) := by
  have : slcT (.str z) lo hi st = if lenOk z.length then .ok (.str (cutS z lo hi)) st else .bad := rfl
  rw [this]
  simp only [↓wp_def, wp_ite_bad, wp_ok]
@[simp] theorem backT_tup {xs st} : backT (.nd .tup .fz xs) st = .ok (.nd .tup .fz xs.reverse) st := nrfl rfl
theorem IsTh.mono {d w d' w' : Nat} {t : T} (h : IsTh d w t) (hd : d ≤ d') (hw : w ≤ w') : IsTh d' w' t := by
  obtain ⟨th, e, h1, h2⟩ := h
  exact ⟨th, e, by omega, by omega⟩
theorem cutT_fromN {xs : List T} {k : Nat} : cutT xs (some ((k : Int) + 1)) none = xs.drop (k + 1) := by
  have : ((k : Int) + 1) = ((k + 1 : Nat) : Int) := by omega
  rw [this]
  simp only [cutT, HT.sIx]
  have h0 : ¬ ((k : Int) + 1 < 0) := by omega
  by_cases h : k + 1 ≤ xs.length
  · simp [h0, h, List.take_of_length_le]
  · simp [h0, h, show xs.length ≤ k + 1 by omega]
end
end PL
namespace PL
open PC
open PySem L2
section
variable {P : Prog}
end
end PL
namespace PL
open PC
open PySem L2
section
variable (sb : Ty → Bool) (i : Nat) (hc : Nat → Store → R T) (sl : Slots) (st : Store) (Q : QT) (X : XT)
@[simp ↓] theorem h_lit (t : T) : @wpI _ (hE sb i hc (.lit t) sl st) ⟨Q⟩ ⟨X⟩ = Q t st := by simp only [hE]; exact nrfl rfl
@[simp ↓] theorem h_var (j : Nat) : @wpI _ (hE sb i hc (.var j) sl st) ⟨Q⟩ ⟨X⟩ = (j ≠ i ∧ wp (varT sl[j]? st) Q X) := by
  simp only [hE]
  by_cases h : j = i
  · simp [h]
  · rw [if_neg h]; simp only [ne_eq, h, not_false_eq_true, true_and]; rfl
@[simp ↓] theorem h_not (a) : @wpI _ (hE sb i hc (.not a) sl st) ⟨Q⟩ ⟨X⟩ = wp (hE sb i hc a sl st) (fun x st => asB x fun b => Q (.bl (!b)) st) X := by
  simp only [↓wp_def, ↓asB_def, hE, wp_bind]; refine wpQ fun x st => ?_; cases x <;> rfl
@[simp ↓] theorem h_and (a b) : @wpI _ (hE sb i hc (.and a b) sl st) ⟨Q⟩ ⟨X⟩ = wp (hE sb i hc a sl st) (fun x st => asB x fun q => br q (wp (hE sb i hc b sl st) Q X) (Q (.bl false) st)) X := by
  simp only [↓wp_def, ↓asB_def, ↓br_def, hE, wp_bind]; refine wpQ fun x st => ?_; cases x <;> first | rfl | (rename_i q; cases q <;> simp)
@[simp ↓] theorem h_or (a b) : @wpI _ (hE sb i hc (.or a b) sl st) ⟨Q⟩ ⟨X⟩ = wp (hE sb i hc a sl st) (fun x st => asB x fun q => br q (Q (.bl true) st) (wp (hE sb i hc b sl st) Q X)) X := by
  simp only [↓wp_def, ↓asB_def, ↓br_def, hE, wp_bind]; refine wpQ fun x st => ?_; cases x <;> first | rfl | (rename_i q; cases q <;> simp)
@[simp ↓] theorem h_isi (j cs) : @wpI _ (hE sb i hc (.isi (.var j) cs) sl st) ⟨Q⟩ ⟨X⟩ = (j = i ∧ Q (.bl (cs.any sb)) st) := by
  simp only [hE]
  by_cases h : j = i <;> simp [h]
@[simp ↓] theorem h_lst (es) : @wpI _ (hE sb i hc (.lst es) sl st) ⟨Q⟩ ⟨X⟩ = wp (hEs sb i hc es sl st) (fun xs st => wp (fzsR xs st) (fun xs st => lenOk xs.length = true ∧ Q (.nd .lst .own xs) st) X) X := by
  simp only [hE]; (repeat' first | with_reducible rfl | (simp only [↓wp_def, ↓wpS_def, ↓asO_def, ↓asB_def, ↓br_def, wp_bind, wp_ite_bad, wp_ok, wpS_of, wpS_nx, wpS_rt, wpS_thn]) | (refine wpQ fun _ _ => ?_))
@[simp ↓] theorem h_keep (d e) : @wpI _ (hE sb i hc (.keep d e) sl st) ⟨Q⟩ ⟨X⟩ = wp (hE sb i hc e sl st) (fun x st => asO (kp d x st) fun y => Q y.1 y.2) X := by
  simp only [↓wp_def, ↓asO_def, hE, wp_bind]; refine wpQ fun x st => ?_; cases kp d x st <;> simp
@[simp ↓] theorem h_call (f j) : @wpI _ (hE sb i hc (.call f (.cons (.var j) .nil)) sl st) ⟨Q⟩ ⟨X⟩ = (j = i ∧ wp (hc f st) Q X) := by
  simp only [hE]
  by_cases h : j = i <;> simp [h]
@[simp ↓] theorem h_append (o es) : @wpI _ (hE sb i hc (.bm .append o es) sl st) ⟨Q⟩ ⟨X⟩ = wp (hE sb i hc o sl st) (fun x st => isLst st x = true ∧ wp (hEs sb i hc es sl st) (fun xs st => wp (bmR .append x xs st) Q X) X) X := by
  simp only [hE, hbmOk, if_true]; (repeat' first | with_reducible rfl | (simp only [↓wp_def, ↓wpS_def, ↓asO_def, ↓asB_def, ↓br_def, wp_bind, wp_ite_bad, wp_ok, wpS_of, wpS_nx, wpS_rt, wpS_thn]) | (refine wpQ fun _ _ => ?_))
@[simp ↓] theorem h_count (o es) : @wpI _ (hE sb i hc (.bm .count o es) sl st) ⟨Q⟩ ⟨X⟩ = wp (hE sb i hc o sl st) (fun x st => isLst st x = true ∧ wp (hEs sb i hc es sl st) (fun xs st => wp (bmR .count x xs st) Q X) X) X := by
  simp only [hE, hbmOk, if_true]; (repeat' first | with_reducible rfl | (simp only [↓wp_def, ↓wpS_def, ↓asO_def, ↓asB_def, ↓br_def, wp_bind, wp_ite_bad, wp_ok, wpS_of, wpS_nx, wpS_rt, wpS_thn]) | (refine wpQ fun _ _ => ?_))
@[simp ↓] theorem h_index (o es) : @wpI _ (hE sb i hc (.bm .index o es) sl st) ⟨Q⟩ ⟨X⟩ = wp (hE sb i hc o sl st) (fun x st => isLst st x = true ∧ wp (hEs sb i hc es sl st) (fun xs st => wp (bmR .index x xs st) Q X) X) X := by
  simp only [hE, hbmOk, if_true]; (repeat' first | with_reducible rfl | (simp only [↓wp_def, ↓wpS_def, ↓asO_def, ↓asB_def, ↓br_def, wp_bind, wp_ite_bad, wp_ok, wpS_of, wpS_nx, wpS_rt, wpS_thn]) | (refine wpQ fun _ _ => ?_))
@[simp ↓] theorem h_cmp (op a b) : @wpI _ (hE sb i hc (.cmp op a b) sl st) ⟨Q⟩ ⟨X⟩ = wp (hE sb i hc a sl st) (fun x st => wp (hE sb i hc b sl st) (fun y st => wp (cmpop op x y st) Q X) X) X := by
  simp only [hE]; (repeat' first | with_reducible rfl | (simp only [↓wp_def, ↓wpS_def, ↓asO_def, ↓asB_def, ↓br_def, wp_bind, wp_ite_bad, wp_ok, wpS_of, wpS_nx, wpS_rt, wpS_thn]) | (refine wpQ fun _ _ => ?_))
@[simp ↓] theorem h_bin (op a b) : @wpI _ (hE sb i hc (.bin op a b) sl st) ⟨Q⟩ ⟨X⟩ = wp (hE sb i hc a sl st) (fun x st => wp (hE sb i hc b sl st) (fun y st => wp (binop op x y st) Q X) X) X := by
  simp only [hE]; (repeat' first | with_reducible rfl | (simp only [↓wp_def, ↓wpS_def, ↓asO_def, ↓asB_def, ↓br_def, wp_bind, wp_ite_bad, wp_ok, wpS_of, wpS_nx, wpS_rt, wpS_thn]) | (refine wpQ fun _ _ => ?_))
@[simp ↓] theorem h_idx (a b) : @wpI _ (hE sb i hc (.idx a b) sl st) ⟨Q⟩ ⟨X⟩ = wp (hE sb i hc a sl st) (fun x st => wp (hE sb i hc b sl st) (fun y st => wp (idxT x y st) Q X) X) X := by
  simp only [hE]; (repeat' first | with_reducible rfl | (simp only [↓wp_def, ↓wpS_def, ↓asO_def, ↓asB_def, ↓br_def, wp_bind, wp_ite_bad, wp_ok, wpS_of, wpS_nx, wpS_rt, wpS_thn]) | (refine wpQ fun _ _ => ?_))
@[simp ↓] theorem h_comp (k j n) : @wpI _ (hE sb i hc (.comp (.var k) false (.name k) (.rng1 (.lit (.int n))) (.idx (.var j) (.var k))) sl st) ⟨Q⟩ ⟨X⟩ = (((k ≠ i ∧ j ≠ i ∧ j ≠ k) ∧ (0 ≤ n ∧ n ≤ 100)) ∧ wp (varT sl[j]? st) (fun t st => asO ((lstOf st t).bind boolsOf) fun bs => bs.length = n.toNat ∧ Q (.nd .lst .own (picks bs)) st) X) := by
  simp only [hE, hComp, and_self, true_and]
  by_cases h : (k ≠ i ∧ j ≠ i ∧ j ≠ k) ∧ (0 ≤ n ∧ n ≤ 100)
  · rw [if_pos h, eq_true h, true_and]
    rcases sl[j]? with _ | _ | t
    · simp [varT]
    · simp [varT]
    · simp only [varT, ↓wp_def, ↓asO_def, wp_ok]
      cases (lstOf st t).bind boolsOf with
      | none => simp
      | some bs => by_cases q : bs.length = n.toNat <;> simp [q]
  · rw [if_neg h, eq_false h, false_and]
    simp
@[simp ↓] theorem h_nil (Q : List T → Store → Prop) : @wpI _ (hEs sb i hc .nil sl st) ⟨Q⟩ ⟨X⟩ = Q [] st := by simp only [hEs]; exact nrfl rfl
@[simp ↓] theorem h_cons (e es) (Q : List T → Store → Prop) : @wpI _ (hEs sb i hc (.cons e es) sl st) ⟨Q⟩ ⟨X⟩ = wp (hE sb i hc e sl st) (fun x st => wp (hEs sb i hc es sl st) (fun xs st => Q (x :: xs) st) X) X := by
  simp only [hEs]; (repeat' first | with_reducible rfl | (simp only [↓wp_def, ↓wpS_def, ↓asO_def, ↓asB_def, ↓br_def, wp_bind, wp_ite_bad, wp_ok, wpS_of, wpS_nx, wpS_rt, wpS_thn]) | (refine wpQ fun _ _ => ?_))
variable (N : Slots → Store → Prop) (Y : Nat → Slots → Store → Prop)
@[simp ↓] theorem h_asg (j e) : @wpSI (hS sb i hc (.asg (.name j) e) sl st) ⟨N⟩ ⟨Q⟩ ⟨Y⟩ = (j ≠ i ∧ wp (hE sb i hc e sl st) (fun x st => wp (fzaR x st) (fun x st => N (sl.set j (some x)) st) (fun c st => Y c sl st)) (fun c st => Y c sl st)) := by
  simp only [hS]
  by_cases h : j = i
  · simp [h]
  · rw [if_neg h]; simp only [ne_eq, h, not_false_eq_true, true_and]; (repeat' first | with_reducible rfl | (simp only [↓wp_def, ↓wpS_def, ↓asO_def, ↓asB_def, ↓br_def, wp_bind, wp_ite_bad, wp_ok, wpS_of, wpS_nx, wpS_rt, wpS_thn]) | (refine wpQ fun _ _ => ?_))
@[simp ↓] theorem h_ex (e) : @wpSI (hS sb i hc (.ex e) sl st) ⟨N⟩ ⟨Q⟩ ⟨Y⟩ = wp (hE sb i hc e sl st) (fun _ st => N sl st) (fun c st => Y c sl st) := by
  simp only [hS]; (repeat' first | with_reducible rfl | (simp only [↓wp_def, ↓wpS_def, ↓asO_def, ↓asB_def, ↓br_def, wp_bind, wp_ite_bad, wp_ok, wpS_of, wpS_nx, wpS_rt, wpS_thn]) | (refine wpQ fun _ _ => ?_))
@[simp ↓] theorem h_ret (e) : @wpSI (hS sb i hc (.ret e) sl st) ⟨N⟩ ⟨Q⟩ ⟨Y⟩ = wp (hE sb i hc e sl st) Q (fun c st => Y c sl st) := by
  simp only [hS]; (repeat' first | with_reducible rfl | (simp only [↓wp_def, ↓wpS_def, ↓asO_def, ↓asB_def, ↓br_def, wp_bind, wp_ite_bad, wp_ok, wpS_of, wpS_nx, wpS_rt, wpS_thn]) | (refine wpQ fun _ _ => ?_))
@[simp ↓] theorem h_ret0 : @wpSI (hS sb i hc .ret0 sl st) ⟨N⟩ ⟨Q⟩ ⟨Y⟩ = Q .non st := by simp only [hS]; exact nrfl rfl
@[simp ↓] theorem h_pass : @wpSI (hS sb i hc .pass sl st) ⟨N⟩ ⟨Q⟩ ⟨Y⟩ = N sl st := by simp only [hS]; exact nrfl rfl
@[simp ↓] theorem h_ite (c a b) : @wpSI (hS sb i hc (.ite c a b) sl st) ⟨N⟩ ⟨Q⟩ ⟨Y⟩ = wp (hE sb i hc c sl st) (fun x st => asB x fun q => br q (wpS (hSs sb i hc a sl st) N Q Y) (wpS (hSs sb i hc b sl st) N Q Y)) (fun c st => Y c sl st) := by
  simp only [↓wp_def, ↓wpS_def, ↓asB_def, ↓br_def, hS, wpS_of]; refine wpQ fun x st => ?_; cases x <;> first | rfl | (rename_i q; cases q <;> simp)
@[simp ↓] theorem h_snil : @wpSI (hSs sb i hc .nil sl st) ⟨N⟩ ⟨Q⟩ ⟨Y⟩ = N sl st := by simp only [hSs]; exact nrfl rfl
@[simp ↓] theorem h_scons (s ss) : @wpSI (hSs sb i hc (.cons s ss) sl st) ⟨N⟩ ⟨Q⟩ ⟨Y⟩ = wpS (hS sb i hc s sl st) (fun sl st => wpS (hSs sb i hc ss sl st) N Q Y) Q Y := by
  simp only [hSs]; (repeat' first | with_reducible rfl | (simp only [↓wp_def, ↓wpS_def, ↓asO_def, ↓asB_def, ↓br_def, wp_bind, wp_ite_bad, wp_ok, wpS_of, wpS_nx, wpS_rt, wpS_thn]) | (refine wpQ fun _ _ => ?_))
end
end PL
namespace PL
open PC
open PySem L2
/-! ### frozen things -/
mutual
def Th.frz : Th → Th
  | .nd _ xs => .nd false (Th.frzs xs)
  | .non => .non
  | .bl b => .bl b
  | .int i => .int i
  | .str s => .str s
  | .dic => .dic
def Th.frzs : List Th → List Th
  | [] => []
  | x :: xs => x.frz :: Th.frzs xs
end
section
variable {P : Prog}
/-- want_tree, is_tree refuse it with c -/
structure Refused (P : Prog) (s : Sh) (a b : Th) (u : T) (N : Nat) (c : Nat) : Prop where
  fz : Fz u
  run : ∀ (n : Nat) (st : Store), callN P (n + N) 21 [s.enc, a.enc, b.enc, u] st = .exc c st
section
variable {s : Sh} {a b : Th} {u : T} {N c : Nat} (R : Refused P s a b u N c) (n : Nat) (st : Store)
include R
end
end
end PL
namespace PL
open PC
open PySem L2
/-! ### loads, by themselves -/
/-- the greatest of f 1, .., f m, and the last place of it -/
def bfGo (f : Nat → Int) : Nat → Int × Nat
  | 0 => (0, 0)
  | m + 1 => if (bfGo f m).1 ≤ f (m + 1) then (f (m + 1), m + 1) else bfGo f m
theorem bfGo_le (f : Nat → Int) : ∀ m, (bfGo f m).2 ≤ m
  | 0 => Nat.le_refl _
  | m + 1 => by
    have := bfGo_le f m
    simp only [bfGo]
    split <;> simp <;> omega
theorem bfGo_top (f : Nat → Int) : ∀ m i, 1 ≤ i → i ≤ m → f i ≤ (bfGo f m).1
  | 0, i, h1, h2 => by omega
  | m + 1, i, h1, h2 => by
    simp only [bfGo]
    by_cases e : i = m + 1
    · subst e
      split
      · exact Int.le_refl _
      · omega
    · have := bfGo_top f m i h1 (by omega)
      split
      · show f i ≤ f (m + 1); omega
      · omega
theorem bfGo_is (f : Nat → Int) : ∀ m, 1 ≤ m → 0 ≤ f 1 → 1 ≤ (bfGo f m).2 ∧ (bfGo f m).1 = f (bfGo f m).2
  | 0, h, _ => by omega
  | m + 1, _, h0 => by
    simp only [bfGo]
    split
    · exact ⟨by simp, rfl⟩
    · rename_i c
      by_cases e : m = 0
      · subst e
        exact absurd h0 c
      · exact bfGo_is f m (by omega) h0
def leftN (bl : Int) (side len : Nat) : Nat := ((side : Int) - len - bl).toNat
def candF (bl : Int) (ws bs : List Int) (side len : Nat) : Int := ws.getD (len - 1) 0 + bs.getD (leftN bl side len) 0
def loadsP (bl : Int) (ws : List Int) : Nat → List Int × List Nat
  | 0 => ([0], [0])
  | m + 1 => ((loadsP bl ws m).1 ++ [(bfGo (candF bl ws (loadsP bl ws m).1 (m + 1)) (m + 1)).1], (loadsP bl ws m).2 ++ [(bfGo (candF bl ws (loadsP bl ws m).1 (m + 1)) (m + 1)).2])
theorem loads_len (bl : Int) (ws : List Int) : ∀ m, (loadsP bl ws m).1.length = m + 1 ∧ (loadsP bl ws m).2.length = m + 1
  | 0 => ⟨rfl, rfl⟩
  | m + 1 => by
    obtain ⟨h1, h2⟩ := loads_len bl ws m
    simp [loadsP, h1, h2]
theorem getD_app {α : Type} {xs ys : List α} {i : Nat} {d : α} (h : i < xs.length) : (xs ++ ys).getD i d = xs.getD i d := by
  simp only [List.getD_eq_getElem?_getD, List.getElem?_append_left h]
theorem loads_stay (bl : Int) (ws : List Int) {i : Nat} : ∀ {m}, i ≤ m → (loadsP bl ws m).1.getD i 0 = (loadsP bl ws i).1.getD i 0 ∧ (loadsP bl ws m).2.getD i 0 = (loadsP bl ws i).2.getD i 0
  | 0, h => by
    obtain rfl : i = 0 := by omega
    exact ⟨rfl, rfl⟩
  | m + 1, h => by
    by_cases e : i = m + 1
    · subst e; exact ⟨rfl, rfl⟩
    · have ih := loads_stay bl ws (i := i) (m := m) (by omega)
      obtain ⟨h1, h2⟩ := loads_len bl ws m
      rw [← ih.1, ← ih.2]
      simp only [loadsP]
      exact ⟨getD_app (by omega), getD_app (by omega)⟩
/-- the load of a side, its first length -/
def loadP (bl : Int) (ws : List Int) (i : Nat) : Int := (loadsP bl ws i).1.getD i 0
def firstP (bl : Int) (ws : List Int) (i : Nat) : Nat := (loadsP bl ws i).2.getD i 0
theorem loads_at (bl : Int) (ws : List Int) {i m : Nat} (h : i ≤ m) : (loadsP bl ws m).1.getD i 0 = loadP bl ws i ∧ (loadsP bl ws m).2.getD i 0 = firstP bl ws i := loads_stay bl ws h
theorem loads_get (bl : Int) (ws : List Int) {i m : Nat} (h : i ≤ m) : (loadsP bl ws m).1[i]? = some (loadP bl ws i) ∧ (loadsP bl ws m).2[i]? = some (firstP bl ws i) := by
  obtain ⟨h1, h2⟩ := loads_len bl ws m
  obtain ⟨e1, e2⟩ := loads_at bl ws h
  rw [← e1, ← e2]
  simp only [List.getD_eq_getElem?_getD]
  rw [List.getElem?_eq_getElem (by omega), List.getElem?_eq_getElem (by omega)]
  exact ⟨rfl, rfl⟩
def WsOk (ws : List Int) : Prop := ∀ x ∈ ws, 0 ≤ x
theorem ws_get {ws : List Int} (h : WsOk ws) (i : Nat) : 0 ≤ ws.getD i 0 := by
  rw [List.getD_eq_getElem?_getD]
  cases e : ws[i]? with
  | none => simp
  | some x => exact h x (List.mem_of_getElem? e)
theorem leftN_lt {bl : Int} (hb : 0 ≤ bl) {side len : Nat} (h1 : 1 ≤ len) (h2 : len ≤ side) : leftN bl side len + len ≤ side := by
  unfold leftN
  omega
theorem loadP_zero (bl : Int) (ws : List Int) : loadP bl ws 0 = 0 := rfl
/-- the recursion -/
theorem loadP_rec {bl : Int} (hb : 0 ≤ bl) {ws : List Int} (hw : WsOk ws) : ∀ (m : Nat), 0 ≤ loadP bl ws m ∧ (1 ≤ m → 1 ≤ firstP bl ws m ∧ firstP bl ws m ≤ m ∧ loadP bl ws m = ws.getD (firstP bl ws m - 1) 0 + loadP bl ws (leftN bl m (firstP bl ws m)) ∧
    ∀ i, 1 ≤ i → i ≤ m → ws.getD (i - 1) 0 + loadP bl ws (leftN bl m i) ≤ loadP bl ws m)
  | 0 => ⟨Int.le_refl _, fun h => by omega⟩
  | m + 1 => by
    obtain ⟨l1, l2⟩ := loads_len bl ws m
    have e1 : loadP bl ws (m + 1) = (bfGo (candF bl ws (loadsP bl ws m).1 (m + 1)) (m + 1)).1 := by
      unfold loadP
      rw [loadsP, List.getD_eq_getElem?_getD, List.getElem?_append_right (by omega), l1]
      simp
    have e2 : firstP bl ws (m + 1) = (bfGo (candF bl ws (loadsP bl ws m).1 (m + 1)) (m + 1)).2 := by
      unfold firstP
      rw [loadsP, List.getD_eq_getElem?_getD, List.getElem?_append_right (by omega), l2]
      simp
    have ec : ∀ i, 1 ≤ i → i ≤ m + 1 → candF bl ws (loadsP bl ws m).1 (m + 1) i = ws.getD (i - 1) 0 + loadP bl ws (leftN bl (m + 1) i) := fun i h1 h2 => by
      unfold candF
      rw [(loads_at bl ws (show leftN bl (m + 1) i ≤ m by have := leftN_lt hb h1 h2; omega)).1]
    have pos : ∀ i, 1 ≤ i → i ≤ m + 1 → 0 ≤ ws.getD (i - 1) 0 + loadP bl ws (leftN bl (m + 1) i) := fun i h1 h2 => by
      have := (loadP_rec hb hw (leftN bl (m + 1) i)).1
      have := ws_get hw (i - 1)
      omega
    have f1 : 0 ≤ candF bl ws (loadsP bl ws m).1 (m + 1) 1 := by rw [ec 1 (by omega) (by omega)]; exact pos 1 (by omega) (by omega)
    obtain ⟨q1, q2⟩ := bfGo_is _ (m + 1) (by omega) f1
    have q3 := bfGo_le (candF bl ws (loadsP bl ws m).1 (m + 1)) (m + 1)
    rw [← e2] at q1 q2 q3
    rw [← e1, ec _ q1 q3] at q2
    refine ⟨by rw [q2]; exact pos _ q1 q3, fun _ => ⟨q1, q3, q2, fun i h1 h2 => ?_⟩⟩
    rw [← ec i h1 h2, e1]
    exact bfGo_top _ _ i h1 h2
termination_by m => m
decreasing_by
  have := leftN_lt hb h1 h2
  omega
/-- the lengths of a load -/
def lensP (bl : Int) (ws : List Int) : Nat → Nat → List Nat
  | 0, _ => []
  | n + 1, s => if 0 < s then firstP bl ws s :: lensP bl ws n (leftN bl s (firstP bl ws s)) else []
theorem lens_spec {bl : Int} (hb : 0 ≤ bl) {ws : List Int} (hw : WsOk ws) : ∀ (n s : Nat), s ≤ n → (∀ x ∈ lensP bl ws n s, 1 ≤ x ∧ x ≤ s) ∧ ((lensP bl ws n s).map fun x => ws.getD (x - 1) 0).sum = loadP bl ws s ∧ (lensP bl ws n s).length ≤ s ∧
    (1 ≤ s → 1 ≤ (lensP bl ws n s).length ∧ (((lensP bl ws n s).map fun x : Nat => (x : Int)).sum + bl * ((lensP bl ws n s).length - 1 : Int) ≤ s))
  | 0, s, h => by
    obtain rfl : s = 0 := by omega
    simp [lensP, loadP_zero]
  | n + 1, s, h => by
    by_cases h0 : 0 < s
    · obtain ⟨f1, f2, f3, _⟩ := (loadP_rec hb hw s).2 h0
      have hl := leftN_lt hb f1 f2
      obtain ⟨i1, i2, i3, i4⟩ := lens_spec hb hw n (leftN bl s (firstP bl ws s)) (by omega)
      simp only [lensP, if_pos h0]
      refine ⟨fun x hx => ?_, ?_, ?_, fun _ => ⟨by simp, ?_⟩⟩
      · rcases List.mem_cons.mp hx with rfl | hx
        · exact ⟨f1, f2⟩
        · have := i1 x hx; omega
      · rw [List.map_cons, List.sum_cons, i2, f3]
      · simp only [List.length_cons]; omega
      · by_cases z : 1 ≤ leftN bl s (firstP bl ws s)
        · obtain ⟨_, i5⟩ := i4 z
          simp only [List.map_cons, List.sum_cons, List.length_cons]
          have e : ((leftN bl s (firstP bl ws s) : Nat) : Int) = s - firstP bl ws s - bl := by unfold leftN at z ⊢; omega
          rw [e] at i5
          have e2 : bl * (((lensP bl ws n (leftN bl s (firstP bl ws s))).length + 1 : Nat) - 1 : Int) = bl * ((lensP bl ws n (leftN bl s (firstP bl ws s))).length - 1 : Int) + bl := by
            have : (((lensP bl ws n (leftN bl s (firstP bl ws s))).length + 1 : Nat) - 1 : Int) = ((lensP bl ws n (leftN bl s (firstP bl ws s))).length - 1 : Int) + 1 := by omega
            rw [this, Int.mul_add, Int.mul_one]
          rw [e2]
          omega
        · have z0 : leftN bl s (firstP bl ws s) = 0 := by omega
          have e : lensP bl ws n (leftN bl s (firstP bl ws s)) = [] := by
            rw [z0]
            cases n <;> simp [lensP]
          simp [e]
          omega
    · obtain rfl : s = 0 := by omega
      simp [lensP, loadP_zero]
theorem lens_fuel {bl : Int} (hb : 0 ≤ bl) {ws : List Int} (hw : WsOk ws) : ∀ (n m s : Nat), s ≤ n → s ≤ m → lensP bl ws n s = lensP bl ws m s
  | 0, m, s, h, _ => by
    obtain rfl : s = 0 := by omega
    cases m <;> simp [lensP]
  | n + 1, 0, s, _, h => by
    obtain rfl : s = 0 := by omega
    simp [lensP]
  | n + 1, m + 1, s, h1, h2 => by
    by_cases h0 : 0 < s
    · obtain ⟨f1, f2, _, _⟩ := (loadP_rec hb hw s).2 h0
      have hl := leftN_lt hb f1 f2
      simp only [lensP, if_pos h0]
      rw [lens_fuel hb hw n m _ (by omega) (by omega)]
    · simp [lensP, h0]
def lensI (bl : Int) (ws : List Int) (s : Nat) : List Nat := lensP bl ws s s
theorem lensI_step {bl : Int} (hb : 0 ≤ bl) {ws : List Int} (hw : WsOk ws) {s : Nat} (h0 : 0 < s) : lensI bl ws s = firstP bl ws s :: lensI bl ws (leftN bl s (firstP bl ws s)) := by
  obtain ⟨f1, f2, _, _⟩ := (loadP_rec hb hw s).2 h0
  have hl := leftN_lt hb f1 f2
  unfold lensI
  obtain ⟨t, rfl⟩ : ∃ t, s = t + 1 := ⟨s - 1, by omega⟩
  rw [lensP, if_pos h0, lens_fuel hb hw t _ _ (by omega) (Nat.le_refl _)]
theorem lensI_zero {bl : Int} {ws : List Int} : lensI bl ws 0 = [] := rfl
/-! ### the walk -/
theorem lt_pair (a b c d : Int) : PySem.W.dataLt (.tuple [.int a, .int b]) (.tuple [.int c, .int d]) = decide (a < c ∨ (a = c ∧ b < d)) := by
  rw [PySem.W.dataLt_pair rfl rfl]
  simp only [PyData.eqv, PySem.W.dataLt_int]
  by_cases h1 : a = c
  · subst h1
    by_cases h2 : b = d
    · subst h2; simp
    · simp [h2]
  · simp [h1]
@[simp] theorem maxT_pair (a b c d : Int) (st : Store) : maxT (.nd .tup .fz [.int a, .int b]) (.nd .tup .fz [.int c, .int d]) st = .ok (.nd .tup .fz (if a < c ∨ (a = c ∧ b < d) then [.int c, .int d] else [.int a, .int b])) st := by
  have al : alkB (.tuple [.int a, .int b]) (.tuple [.int c, .int d]) = true := by
    simp [alkB, PySem.W.alike, PySem.W.alikeAll, PyData.depth, PyData.depthAll]
  show maxP [.int a, .int b] [.int c, .int d] st = _
  have e : ∀ x y : Int, toDs (fun _ => none) [.int x, .int y] = some [.int x, .int y] := fun _ _ => rfl
  simp only [maxP, e, al, if_true, lt_pair, decide_eq_true_eq]
section
variable {P : Prog}
theorem best_first_ok [C_best_first P] (n : Nat) (bl : Int) (hb : 0 ≤ bl) (l : Bool) (ws bs : List Int) (side k : Nat) (hs : side ≤ ws.length) (hl : bs.length = side) (h64 : side ≤ 100) (st : Store) (hk : st[k]? = some (.nd .lst .own (bs.map T.int))) :
    callN P (n + 1) 62 [.int bl, nodeX l (ws.map T.int), .ref k, .int side] st = .ok (.nd .tup .fz [.int (bfGo (candF bl ws bs side) side).1, .int (bfGo (candF bl ws bs side) side).2]) st := by
  refine wp_eq (wp_fn C_best_first.f62 rfl ?_)
  have hr : rngOk 1 ((side : Int) + 1) = true := rngOk_lt (by omega) (by omega) (by omega) (by omega) (by omega)
  simp [F_best_first, hr]
  refine wp_for (fun i sl st' => (∃ x5 x6, sl = [some (.int bl), some (nodeX l (ws.map T.int)), some (.ref k), some (.int side), some (.nd .tup .fz [.int (bfGo (candF bl ws bs side) i).1, .int (bfGo (candF bl ws bs side) i).2]), x5, x6]) ∧ st' = st) ⟨⟨_, _, rfl⟩, rfl⟩ ?_ ?_
  · rintro i x _ _ hx ⟨⟨x5, x6, rfl⟩, rfl⟩
    obtain ⟨rfl, hi⟩ := rngT_get hx
    have hw : ws[i]? = some (ws.getD i 0) := by rw [List.getD_eq_getElem?_getD, List.getElem?_eq_getElem (by omega)]; rfl
    have lf := leftN_lt hb (side := side) (len := i + 1) (by omega) (by omega)
    have hbs : bs[leftN bl side (i + 1)]? = some (bs.getD (leftN bl side (i + 1)) 0) := by rw [List.getD_eq_getElem?_getD, List.getElem?_eq_getElem (by omega)]; rfl
    have a1 : L2.atI (ws.map T.int) (1 + (i : Int) - 1) = some (.int (ws.getD i 0)) := by
      rw [atI_get (by omega), show (1 + (i : Int) - 1).toNat = i by omega, List.getElem?_map, hw]; rfl
    have a2 : L2.atI (bs.map T.int) (if bl < (side : Int) - (1 + i) then (side : Int) - (1 + i) - bl else 0) = some (.int (bs.getD (leftN bl side (i + 1)) 0)) := by
      have e : (if bl < (side : Int) - (1 + i) then (side : Int) - (1 + i) - bl else 0) = ((leftN bl side (i + 1) : Nat) : Int) := by
        unfold leftN
        split <;> omega
      rw [e, atI_get (by omega), show (((leftN bl side (i + 1) : Nat) : Int)).toNat = leftN bl side (i + 1) by omega, List.getElem?_map, hbs]; rfl
    have le := bfGo_le (candF bl ws bs side) i
    have ec : candF bl ws bs side (i + 1) = ws.getD i 0 + bs.getD (leftN bl side (i + 1)) 0 := by unfold candF; rw [Nat.add_sub_cancel]
    simp only [bfGo, ec]
    generalize ws.getD i 0 = x at *
    generalize bs.getD (leftN bl side (i + 1)) 0 = y at *
    simp [hk, a1, a2]
    by_cases c : (bfGo (candF bl ws bs side) i).1 ≤ x + y
    · rw [if_pos c, if_pos (by omega)]
      simp
      omega
    · rw [if_neg c, if_neg (by omega)]
  · rintro _ _ ⟨⟨x5, x6, rfl⟩, rfl⟩
    simp
theorem loads_of_ok [C_loads_of P] (n : Nat) (bl : Int) (hb : 0 ≤ bl) (l : Bool) (ws : List Int) (h64 : ws.length ≤ 100) (st : Store) :
    callN P (n + 2) 63 [.int bl, nodeX l (ws.map T.int)] st = .ok (.nd .tup .fz [.nd .lst .fz ((loadsP bl ws ws.length).1.map T.int), .nd .lst .fz ((loadsP bl ws ws.length).2.map fun i : Nat => T.int i)]) st := by
  refine wp_eq (wp_fn C_loads_of.f63 rfl ?_)
  have hr : rngOk 1 ((ws.length : Int) + 1) = true := rngOk_lt (by omega) (by omega) (by omega) (by omega) (by omega)
  simp [F_loads_of, hr]
  refine wp_for (fun i sl st' => (∃ x4 x5 x6, sl = [some (.int bl), some (nodeX l (ws.map T.int)), some (.ref st.length), some (.ref (st.length + 1)), x4, x5, x6]) ∧ st' = st ++ [.nd .lst .own ((loadsP bl ws i).1.map T.int), .nd .lst .own ((loadsP bl ws i).2.map fun i : Nat => T.int i)]) ⟨⟨_, _, _, rfl⟩, rfl⟩ ?_ ?_
  · rintro i x _ _ hx ⟨⟨x4, x5, x6, rfl⟩, rfl⟩
    obtain ⟨rfl, hi⟩ := rngT_get hx
    obtain ⟨l1, l2⟩ := loads_len bl ws i
    have e := fun st hk => best_first_ok (P := P) n bl hb l ws (loadsP bl ws i).1 (i + 1) st.length (by omega) l1 (by omega) (st ++ [.nd .lst .own ((loadsP bl ws i).1.map T.int), .nd .lst .own ((loadsP bl ws i).2.map fun i : Nat => T.int i)]) hk
    have e := e st (by simp)
    rw [show (((i + 1 : Nat)) : Int) = 1 + (i : Int) by omega] at e
    have z1 : (loadsP bl ws i).1.length < sizeLine := size_lt (by omega)
    have z2 : (loadsP bl ws i).2.length < sizeLine := size_lt (by omega)
    simp [e, z1, z2, loadsP]
  · rintro _ _ ⟨⟨x4, x5, x6, rfl⟩, rfl⟩
    simp
def natT (i : Nat) : T := .int i
def natD (i : Nat) : PyData := .int i
theorem sortOk_nat (xs : List Nat) : sortOk (xs.map natD) = true := by
  simp only [sortOk, Bool.and_eq_true, Bool.or_eq_true, List.all_eq_true, List.mem_map, decide_eq_true_eq]
  refine ⟨⟨?_, .inr ?_⟩, ?_⟩
  · rintro _ ⟨a, _, rfl⟩ _ ⟨b, _, rfl⟩; rfl
  · rintro _ ⟨a, _, rfl⟩; rfl
  · rintro _ ⟨a, _, rfl⟩; simp [natD, PyData.depth]
theorem lengths_by_ok [C_lengths_by P] (n : Nat) (bl : Int) (hb : 0 ≤ bl) (ws : List Int) (hw : WsOk ws) (m side : Nat) (hs : side ≤ m) (h64 : side ≤ 100) (st : Store) :
    callN P (n + 1) 64 [.int bl, .nd .lst .fz ((loadsP bl ws m).2.map natT), .int side] st = .ok (.nd .lst .own ((sortX natD (lensI bl ws side)).map natT)) st := by
  have hlen := (lens_spec hb hw side side (Nat.le_refl _)).2.2.1
  refine wp_eq (wp_fn C_lengths_by.f64 rfl ?_)
  simp [F_lengths_by]
  refine wp_whl (m := side) (fun q sl st' => ∃ (c : Int) (acc : List Nat), c.toNat = q ∧ q ≤ side ∧ lensI bl ws side = acc ++ lensI bl ws q ∧ sl = [some (.int bl), some (.nd .lst .fz ((loadsP bl ws m).2.map natT)), some (.int c), some (.ref st.length)] ∧ st' = st ++ [.nd .lst .own (acc.map natT)]) ?_ ⟨side, [], by simp, Nat.le_refl _, rfl, rfl, rfl⟩ (by omega)
  rintro q _ _ ⟨c, acc, hc, hq, hacc, rfl, rfl⟩
  have ha : acc.length ≤ 100 := by
    have := congrArg List.length hacc
    rw [List.length_append] at this
    have h2 : (lensI bl ws side).length ≤ side := hlen
    omega
  by_cases h0 : 0 < c
  · obtain rfl : c = (q : Int) := by omega
    have q0 : 0 < q := by omega
    obtain ⟨f1, f2, _, _⟩ := (loadP_rec hb hw q).2 q0
    have hl := leftN_lt hb f1 f2
    have a1 : L2.atI ((loadsP bl ws m).2.map natT) (q : Int) = some (natT (firstP bl ws q)) := by
      rw [atI_get (by omega), show ((q : Int)).toNat = q by omega, List.getElem?_map, (loads_get bl ws (show q ≤ m by omega)).2]; rfl
    have z1 : acc.length < sizeLine := size_lt (by omega)
    simp [h0, a1, natT, z1]
    refine ⟨fun _ => ⟨leftN bl q (firstP bl ws q), by omega, _, rfl, by omega, acc ++ [firstP bl ws q], ?_, rfl, ?_⟩, fun z => by omega⟩
    · rw [hacc, lensI_step hb hw q0]; simp
    · simp [natT]
  · obtain rfl : q = 0 := by omega
    rw [lensI_zero, List.append_nil] at hacc
    have hs := sort_map natT natD (fun _ => rfl) acc (sortOk_nat acc) (by omega) (o := .own) rfl (st ++ [.nd .lst .own (acc.map natT)])
    rw [← sortT_ref (k := st.length) (by simp)] at hs
    simp [h0, hs]
    rw [hacc]
theorem are_weights_ok [C_are_weights P] (n : Nat) (l : Bool) (ws : List Int) (hw : WsOk ws) (lo hi : Int) (h64 : ws.length ≤ 1000) (st : Store) :
    callN P (n + 2) 61 [nodeX l (ws.map T.int), .int lo, .int hi] st = .ok (.bl (decide (lo ≤ (ws.length : Int)) && decide ((ws.length : Int) ≤ hi))) st := by
  obtain ⟨g, e, hg⟩ := node_nodeX (l := l) (xs := ws.map T.int) (st := st)
  have e1 := is_listed_ok (P := P) n (nodeX l (ws.map T.int)) lo hi st g .fz _ e hg
  rw [List.length_map] at e1
  have ew := fun i st => is_whole_int (P := P) n i 0 st
  have hl : lenOk ws.length = true := lenOk_lt (by omega)
  refine wp_eq (wp_fn C_are_weights.f61 rfl ?_)
  cases q : (decide (lo ≤ (ws.length : Int)) && decide ((ws.length : Int) ≤ hi)) with
  | false =>
    rw [q] at e1
    simp [F_are_weights, e1]
  | true =>
    rw [q] at e1
    have hall : ((ws.map fun i => decide ((0 : Int) ≤ i)).all id) = true := by
      simp only [List.all_map, List.all_eq_true, Function.comp, id, decide_eq_true_eq]
      exact hw
    have hb := bools_map (f := fun i : Int => decide ((0 : Int) ≤ i)) (xs := ws)
    cases l <;> simp [nodeX] at e1 <;> simp [F_are_weights, e1, nodeX, hl] <;> (rw [comp_of_map (e' := fun i : Int => T.bl (decide ((0 : Int) ≤ i))) fun i hi => wp_eq (by simp [ew])]) <;> simp [hb, hall] <;> exact hw
theorem load_of_ok [C_load_of P] (n : Nat) (bl : Int) (hb : 0 ≤ bl) (l : Bool) (ws : List Int) (hw : WsOk ws) (side : Nat) (h1 : 1 ≤ side) (hs : side ≤ ws.length) (h60 : ws.length ≤ 60) (st : Store) :
    callN P (n + 3) 65 [.int bl, nodeX l (ws.map T.int), .int side] st = .ok (.nd .tup .opn [.int (loadP bl ws side), .nd .lst .own ((sortX natD (lensI bl ws side)).map natT)]) st := by
  have e0 := fun st => is_whole_int (P := P) (n + 1) bl 0 st
  have e1 := fun st => is_whole_int (P := P) (n + 1) side 1 st
  have e2 := fun st => are_weights_ok (P := P) n l ws hw 1 60 (by omega) st
  have e3 := fun st => loads_of_ok (P := P) n bl hb l ws (by omega) st
  have e4 := fun st => lengths_by_ok (P := P) (n + 1) bl hb ws hw ws.length side hs (by omega) st
  have a1 : L2.atI ((loadsP bl ws ws.length).1.map T.int) (side : Int) = some (.int (loadP bl ws side)) := by
    rw [atI_get (by omega), show ((side : Int)).toNat = side by omega, List.getElem?_map, (loads_get bl ws hs).1]; rfl
  have q1 : (1 : Int) ≤ (ws.length : Int) := by omega
  have q2 : (ws.length : Int) ≤ 60 := by omega
  have q3 : (1 : Int) ≤ (side : Int) := by omega
  have q4 : ¬ ((ws.length : Int) < (side : Int)) := by omega
  have e5 : (loadsP bl ws ws.length).2.map (fun i : Nat => T.int i) = (loadsP bl ws ws.length).2.map natT := rfl
  rw [e5] at e3
  refine wp_eq (wp_fn C_load_of.f65 rfl ?_)
  simp [F_load_of, e0, e1, e2, e3, e4, a1, hb, q1, q2, q3, q4]
end
end PL
/-! REPR: data that repr shows. -/
namespace PL
open PC
open PySem L2
mutual
/-- small whole numbers, texts, lists, tuples of such -/
def shB : PyData → Bool
  | .none => true
  | .bool _ => true
  | .int i => decide (i.natAbs < 10 ^ 100)
  | .str x => x.cps.toList.all fun c => decide (c < 16 ^ 8)
  | .list xs => shBs xs
  | .tuple xs => shBs xs
  | .dict _ => false
def shBs : List PyData → Bool
  | [] => true
  | x :: xs => shB x && shBs xs
end
theorem int_shown {i : Int} (h : i.natAbs < 10 ^ 100) : (PyData.shown (.int i)).length ≤ 110 := by
  have e := int_text_length_le10 (k := 100) (by decide) h
  have e2 : (PyData.shown (.int i)).length = (toString i).length := by
    simp only [PyData.shown]
    exact ofString_length _
  omega
theorem int_log {i : Int} (h : i.natAbs < 10 ^ 100) : i.natAbs.log2 < 1920 := by
  by_cases e : i.natAbs = 0
  · rw [e]; decide
  · have h2 : i.natAbs < 2 ^ 1000 := by omega
    have := (Nat.log2_lt e).mpr h2
    omega
mutual
theorem sh_ok : ∀ d : PyData, shB d = true → d.showable = true ∧ d.hasDict = false ∧ d.leavesShort 110 = true
  | .none, _ => ⟨rfl, rfl, rfl⟩
  | .bool _, _ => ⟨rfl, rfl, rfl⟩
  | .int i, h => by
    have h' : i.natAbs < 10 ^ 100 := by simpa only [shB, decide_eq_true_eq] using h
    refine ⟨?_, rfl, ?_⟩
    · simp only [PyData.showable, decide_eq_true_eq]; exact int_log h'
    · simp only [PyData.leavesShort, decide_eq_true_eq]; exact int_shown h'
  | .str x, h => by
    refine ⟨rfl, rfl, ?_⟩
    simpa only [PyData.leavesShort, shB] using h
  | .list xs, h => by
    obtain ⟨h1, h2, h3⟩ := shs_ok xs (by simpa only [shB] using h)
    exact ⟨by simpa only [PyData.showable] using h1, by simpa only [PyData.hasDict] using h2, by simpa only [PyData.leavesShort] using h3⟩
  | .tuple xs, h => by
    obtain ⟨h1, h2, h3⟩ := shs_ok xs (by simpa only [shB] using h)
    exact ⟨by simpa only [PyData.showable] using h1, by simpa only [PyData.hasDict] using h2, by simpa only [PyData.leavesShort] using h3⟩
  | .dict _, h => by simp [shB] at h
theorem shs_ok : ∀ ds : List PyData, shBs ds = true → PyData.showableAll ds = true ∧ PyData.hasDictAll ds = false ∧ PyData.leavesShortAll 110 ds = true
  | [], _ => ⟨rfl, rfl, rfl⟩
  | x :: xs, h => by
    have h' : shB x = true ∧ shBs xs = true := by simpa only [shBs, Bool.and_eq_true] using h
    obtain ⟨a1, a2, a3⟩ := sh_ok x h'.1
    obtain ⟨b1, b2, b3⟩ := shs_ok xs h'.2
    exact ⟨by simp only [PyData.showableAll, a1, b1, Bool.and_self], by simp only [PyData.hasDictAll, a2, b2, Bool.or_self], by simp only [PyData.leavesShortAll, a3, b3, Bool.and_self]⟩
end
/-- repr -/
theorem repr_ok {st : Store} {t : T} {d : PyData} (hn : (nodeOf st t).isSome = true) (hd : dataOf st t = some d) (hs : shB d = true) (hb : d.bulk ≤ 8000) (hp : d.depth ≤ 60) : reprT t st = .ok (.str d.shown) st := by
  obtain ⟨a1, a2, a3⟩ := sh_ok d hs
  have hl := PyData.shown_le_bulk 110 (by decide) d a3
  have hz : lenOk d.shown.length = true := decide_eq_true (by have := size_big; omega)
  unfold reprT
  simp only [dataX_of hd, a1, hz, hp, Bool.and_self, decide_true, if_true]
end PL
/-! CELLS: the cell, the pot of the later families. -/
namespace PL
open PC
open PySem L2
section
variable {P : Prog}
theorem cellB [C_law_cell_k31 P] (n : Nat) (ns : List Int) (j : Nat) (st : Store) : ∃ c : Int, callN P (n + 1) 138 [.nd .scr .fz (ns.map T.int), .int j] st = .ok (.int c) st := by
  by_cases h : j < ns.length
  · refine ⟨ns[j], wp_eq (wp_fn C_law_cell_k31.f138 rfl ?_)⟩
    have hg : ns[j]? = some ns[j] := List.getElem?_eq_getElem h
    have h2 : (j : Int) < (ns.length : Int) := by omega
    simp [F_law_cell_k31, hg, h2, h]
  · refine ⟨0, wp_eq (wp_fn C_law_cell_k31.f138 rfl ?_)⟩
    simp [F_law_cell_k31, h]
theorem potL [C_law_pot_k61 P] (n : Nat) (c : Int) (st : Store) : ∃ a b, callN P (n + 1) 172 [.int c] st = .ok (pot a b) st := by
  have h : wp (callN P (n + 1) 172 [.int c] st) (fun t st' => ∃ a b, t = pot a b ∧ st' = st) nX := by
    refine wp_fn C_law_pot_k61.f172 rfl ?_
    simp [F_law_pot_k61]
    exact ⟨_, _, rfl⟩
  obtain ⟨t, st', e, a, b, rfl, rfl⟩ := wp_ex h
  exact ⟨a, b, e⟩
/-- a law that asks f of a pot of each cell -/
theorem range_min (a b : Int) (ha : 0 ≤ a) (hb : 0 ≤ b) (h : b < 1000) : rngOk 0 ((if b < a then b else a) + 1) = true := by
  refine rngOk_lt ?_ ?_ ?_ ?_ ?_ <;> (try split) <;> omega
end
end PL
/-! WEIGHING: what kinds and plates weigh. -/
namespace PL
open PC
open PySem L2
/-! ### by themselves -/
def wAt (u : List Int) (i : Int) : Int := u.getD (i.toNat - 1) 0
def WsB (u : List Int) : Prop := ∀ x ∈ u, 0 ≤ x ∧ x < 10 ^ 58
theorem WsB.ok {u : List Int} (h : WsB u) : WsOk u := fun x hx => (h x hx).1
theorem WsB.at {u : List Int} (h : WsB u) (i : Int) : 0 ≤ wAt u i ∧ wAt u i < 10 ^ 58 := by
  unfold wAt
  rw [List.getD_eq_getElem?_getD]
  cases e : u[i.toNat - 1]? with
  | none => simp
  | some x => exact h x (List.mem_of_getElem? e)
end PL
namespace PL
open PC
open PySem L2
section
variable {P : Prog}
theorem fzaR_nodeX {l : Bool} {xs : List T} {st : Store} : fzaR (nodeX l xs) st = .ok (nodeX l xs) st := by cases l <;> rfl
@[simp] theorem isNon_nonU : PC.isNon .non = true := nrfl rfl
@[simp] theorem isNon_int {i} : PC.isNon (.int i) = false := nrfl rfl
end
end PL
/-! the weighing family's draws -/
namespace PL
open PC
open PySem L2
@[simp] theorem w_divmod {i j st} {Q : QT} {X} : @wpI _ (divmodT (.int i) (.int j) st) ⟨Q⟩ ⟨X⟩ = ((0 < j ∧ j.natAbs.log2 < 9000) ∧ Q (.nd .tup .fz [.int (i / j), .int (i % j)]) st) := by
  simp [divmodT]
@[simp] theorem biop_divmod : biop .divmod = on2 divmodT := nrfl rfl
section
variable {P : Prog}
theorem drawU [C_law_draw_k62 P] (n : Nat) (m : Int) (hm : 0 < m) (hl : m < 10 ^ 70) : Gen P (n + 1) 173 [.int m] (fun t => ∃ r, t = .int r ∧ 0 ≤ r ∧ r < m) := by
  intro st k h
  have H := h.start
  obtain ⟨a, b, e⟩ := H.get
  have hk : ∀ x, (st.set k x)[k]? = some x := fun x => List.getElem?_set_self H.lt
  have hl := log_lt hm hl
  refine wp_fn C_law_draw_k62.f173 rfl ?_
  have e' := e
  unfold pot at e'
  have h3 : Nat.log2 3 < 9000 := by decide
  have c0 : 0 ≤ (b * 48271 + 11) % 2147483647 := Int.emod_nonneg _ (by decide)
  have c1 : (b * 48271 + 11) % 2147483647 < 2147483647 := Int.emod_lt_of_pos _ (by decide)
  have c2 : mulOk ((b * 48271 + 11) % 2147483647) ((b * 48271 + 11) % 2147483647) = true := mulOk_l (by omega)
  simp [F_law_draw_k62, e', hk, hm, hl, h3, c2]
  refine ⟨fun h => ⟨⟨Int.emod_nonneg _ (by omega), Int.emod_lt_of_pos _ hm⟩, ?_⟩, fun h => ⟨⟨Int.emod_nonneg _ (by omega), Int.emod_lt_of_pos _ hm⟩, ?_⟩⟩
  · exact (H.set (a / m) b).take
  · exact (H.set a ((b * 48271 + 11) % 2147483647)).take
theorem greatU [C_law_great_k62 P] (n : Nat) : Gen P (n + 2) 174 [] (fun t => ∃ r, t = .int r ∧ 0 ≤ r ∧ r < 10 ^ 58) := by
  intro st k h
  refine wp_fn C_law_great_k62.f174 rfl ?_
  simp [F_law_great_k62]
  refine Gen.use (drawU n _ (by omega) (by omega)) h.start ?_
  rintro _ st1 ⟨a, rfl, p1, q1⟩ H1
  simp
  exact ⟨mulOk_bd (by omega) (by decide), ⟨Int.emod_nonneg _ (by decide), Int.emod_lt_of_pos _ (by decide)⟩, H1.take⟩
end
end PL
/-! ODD: things of any kind: what is_whole, are_weights say of them, that repr shows them. -/
namespace PL
open PC
open PySem L2
/-- what is_whole says of a thing -/
def WhB (P : Prog) (l : Int) (x : T) (b : Bool) : Prop := Fz x ∧ ∀ (n : Nat) (st : Store), callN P (n + 1) 0 [x, .int l] st = .ok (.bl b) st
/-- a thing that stays a thing -/
def Stays (x : T) : Prop := Fz x ∧ ∀ k, x ≠ .ref k
theorem Stays.leave {x : T} (h : Stays x) (n : Nat) (st : Store) : leaveT n x st = .ok x (st.take n) := leaveT_of h.1 h.2
theorem Stays.nd {g : Tag} {xs : List T} (h : Fz (.nd g .fz xs)) : Stays (.nd g .fz xs) := ⟨h, fun k => by simp⟩
/-- what are_weights says -/
def WsA (P : Prog) (t : T) (lo hi : Int) (b : Bool) : Prop := Stays t ∧ ∀ (n : Nat) (st : Store), callN P (n + 2) 61 [t, .int lo, .int hi] st = .ok (.bl b) st
section
variable {P : Prog}
theorem wh_int [C_is_whole P] (l i : Int) : WhB P l (.int i) (decide (l ≤ i)) := ⟨by simp, fun n st => is_whole_int n i l st⟩
theorem wh_not [C_is_whole P] (l : Int) (x : T) (hf : Fz x) (b : BT) (h : ∀ st, btOf st x = some b) (hb : b ≠ .int) : WhB P l x false := ⟨hf, fun n st => is_whole_bt n x l st b (h st) hb⟩
theorem wh_bad [C_is_whole P] {l i : Int} (h : i < l) : WhB P l (.int i) false := by have := wh_int (P := P) l i; rwa [decide_eq_false (by omega)] at this
theorem wh_good [C_is_whole P] {l i : Int} (h : l ≤ i) : WhB P l (.int i) true := by have := wh_int (P := P) l i; rwa [decide_eq_true h] at this
/-- things, each with what is_whole says -/
theorem ws_node [C_are_weights P] (l : Bool) (ps : List (T × Bool)) (lo hi : Int) (hp : ∀ p ∈ ps, WhB P 0 p.1 p.2) (hl : ps.length ≤ 1000) :
    WsA P (nodeX l (ps.map (·.1))) lo hi ((decide (lo ≤ (ps.length : Int)) && decide ((ps.length : Int) ≤ hi)) && (ps.all (·.2))) := by
  have ff : ∀ x ∈ ps.map (·.1), Fz x := fun x hx => by
    obtain ⟨p, h1, rfl⟩ := List.mem_map.mp hx
    exact (hp p h1).1
  refine ⟨by cases l <;> exact Stays.nd (by simp), fun n st => ?_⟩
  obtain ⟨g, e, hg⟩ := node_nodeX (l := l) (xs := ps.map (·.1)) (st := st)
  have e1 := is_listed_ok (P := P) n (nodeX l (ps.map (·.1))) lo hi st g .fz _ e hg
  rw [List.length_map] at e1
  have hl : lenOk ps.length = true := lenOk_lt (by omega)
  refine wp_eq (wp_fn C_are_weights.f61 rfl ?_)
  cases q : (decide (lo ≤ (ps.length : Int)) && decide ((ps.length : Int) ≤ hi)) with
  | false =>
    rw [q] at e1
    cases l <;> simp [nodeX] at e1 <;> simp [F_are_weights, e1, nodeX]
  | true =>
    rw [q] at e1
    have hb := bools_map (f := fun p : T × Bool => p.2) (xs := ps)
    cases l <;> simp [nodeX] at e1 <;> simp [F_are_weights, e1, nodeX, hl] <;> (rw [comp_of_map (e' := fun p : T × Bool => T.bl p.2) fun p hq => wp_eq (by
      have f := (hp p hq).1
      have w := (hp p hq).2 n
      simp [f, w])]) <;> simp [hb] <;> rfl
theorem ws_bt [C_are_weights P] (t : T) (hs : Stays t) (lo hi : Int) (b : BT) (h : ∀ st, btOf st t = some b) (hb : b ≠ .list) (hb2 : b ≠ .tuple) : WsA P t lo hi false := by
  refine ⟨hs, fun n st => ?_⟩
  have e1 := fun st => is_listed_bt (P := P) n t lo hi st b (h st) hb hb2
  have f := hs.1
  refine wp_eq (wp_fn C_are_weights.f61 rfl ?_)
  simp [F_are_weights, e1, f]
end
/-- repr shows it; its size, its depth -/
def RpB (x : T) (n m : Nat) : Prop := ∃ d, (∀ look, toX look x = some d) ∧ (d.showable = true ∧ d.leavesShort 110 = true) ∧ d.bulk ≤ n ∧ d.depth ≤ m
theorem RpB.mono {x : T} {n m n' m' : Nat} (h : RpB x n m) (h1 : n ≤ n') (h2 : m ≤ m') : RpB x n' m' := let ⟨d, a, b, c, e⟩ := h; ⟨d, a, b, by omega, by omega⟩
theorem rp_non : RpB .non 0 1 := ⟨.none, fun _ => rfl, ⟨rfl, rfl⟩, Nat.le_refl _, by simp [PyData.depth]⟩
theorem rp_bl (b : Bool) : RpB (.bl b) 0 1 := ⟨.bool b, fun _ => rfl, ⟨rfl, rfl⟩, Nat.le_refl _, by simp [PyData.depth]⟩
theorem rp_int {i : Int} (h : i.natAbs < 10 ^ 100) : RpB (.int i) 0 1 := ⟨.int i, fun _ => rfl, ⟨by simp only [PyData.showable, decide_eq_true_eq]; exact int_log h, by simp only [PyData.leavesShort, decide_eq_true_eq]; exact int_shown h⟩, Nat.le_refl _, by simp [PyData.depth]⟩
theorem rp_str (x : Str) (h : (x.cps.toList.all fun c => decide (c < 16 ^ 8)) = true) : RpB (.str x) x.cps.size 1 := ⟨.str x, fun _ => rfl, ⟨rfl, by simpa only [PyData.leavesShort] using h⟩, Nat.le_refl _, by simp [PyData.depth]⟩
theorem rp_all {xs : List T} {n m : Nat} (h : ∀ x ∈ xs, RpB x n m) : ∃ ds, (∀ look, toXs look xs = some ds) ∧ (PyData.showableAll ds = true ∧ PyData.leavesShortAll 110 ds = true) ∧ PyData.bulkAll ds ≤ (n + 1) * xs.length ∧ PyData.depthAll ds ≤ m := by
  induction xs with
  | nil => exact ⟨[], fun _ => rfl, ⟨rfl, rfl⟩, Nat.zero_le _, Nat.zero_le _⟩
  | cons x xs ih =>
    obtain ⟨d, a1, ⟨a2, a3⟩, a4, a5⟩ := h x (by simp)
    obtain ⟨ds, b1, ⟨b2, b3⟩, b4, b5⟩ := ih fun y hy => h y (by simp [hy])
    refine ⟨d :: ds, fun look => by simp only [toXs, a1 look, b1 look], ⟨by simp only [PyData.showableAll, a2, b2, Bool.and_self], by simp only [PyData.leavesShortAll, a3, b3, Bool.and_self]⟩, ?_, by simp only [PyData.depthAll]; omega⟩
    simp only [PyData.bulkAll, List.length_cons, Nat.mul_add, Nat.mul_one]
    omega
theorem rp_lst {o : Ow} {xs : List T} {n m : Nat} (h : ∀ x ∈ xs, RpB x n m) : RpB (.nd .lst o xs) ((n + 1) * xs.length) (m + 1) := by
  obtain ⟨ds, b1, ⟨b2, b3⟩, b4, b5⟩ := rp_all h
  exact ⟨.list ds, fun look => by simp only [toX, b1 look, Option.map_some], ⟨by simpa only [PyData.showable] using b2, by simpa only [PyData.leavesShort] using b3⟩, by simpa only [PyData.bulk] using b4, by simp only [PyData.depth]; omega⟩
theorem rp_tup {o : Ow} {xs : List T} {n m : Nat} (h : ∀ x ∈ xs, RpB x n m) : RpB (.nd .tup o xs) ((n + 1) * xs.length) (m + 1) := by
  obtain ⟨ds, b1, ⟨b2, b3⟩, b4, b5⟩ := rp_all h
  exact ⟨.tuple ds, fun look => by simp only [toX, b1 look, Option.map_some], ⟨by simpa only [PyData.showable] using b2, by simpa only [PyData.leavesShort] using b3⟩, by simpa only [PyData.bulk] using b4, by simp only [PyData.depth]; omega⟩
theorem rp_nodeX {l : Bool} {xs : List T} {n m : Nat} (h : ∀ x ∈ xs, RpB x n m) : RpB (nodeX l xs) ((n + 1) * xs.length) (m + 1) := by
  cases l
  · exact rp_tup h
  · exact rp_lst h
theorem rp_dic0 {o : Ow} {ks : List NestedKey} : RpB (.nd (.dic ks) o []) 0 1 := ⟨.dict [], fun _ => rfl, ⟨rfl, rfl⟩, Nat.le_refl _, by simp [PyData.depth, PyData.depthKv]⟩
theorem rp_dic1 {o : Ow} {ks : List NestedKey} {k v : T} {n m : Nat} (hk : RpB k n m) (hv : RpB v n m) : RpB (.nd (.dic ks) o [k, v]) (2 * n + 2) (m + 1) := by
  obtain ⟨d, a1, ⟨a2, a3⟩, a4, a5⟩ := hk
  obtain ⟨e, b1, ⟨b2, b3⟩, b4, b5⟩ := hv
  refine ⟨.dict [(d, e)], fun look => by simp only [toX, toXs, a1 look, b1 look, Option.bind_some, pairsX, Option.map_some], ⟨by simp only [PyData.showable, PyData.showableKv, a2, b2, Bool.and_self], by simp only [PyData.leavesShort, PyData.leavesShortKv, a3, b3, Bool.and_self]⟩, ?_, ?_⟩
  · simp only [PyData.bulk, PyData.bulkKv]; omega
  · simp only [PyData.depth, PyData.depthKv]; omega
theorem rp_repr {x : T} {n m : Nat} (h : RpB x n m) (hn : n ≤ 8000) (hm : m ≤ 60) : ∃ s, ∀ st, reprT x st = .ok (.str s) st := by
  obtain ⟨d, a1, ⟨a2, a3⟩, a4, a5⟩ := h
  refine ⟨d.shown, fun st => ?_⟩
  have hl := PyData.shown_le_bulk 110 (by decide) d a3
  have hz : lenOk d.shown.length = true := decide_eq_true (by have := size_big; omega)
  have hd : d.depth ≤ 60 := by omega
  have e : dataX st x = some d := a1 _
  unfold reprT
  simp only [e, a2, hz, hd, Bool.and_self, decide_true, if_true]
end PL
namespace Z
open PySem L2 PC PL
class SubX (P : Prog) : Prop where
  ex : P.excs = prog.excs
  sb : P.sub = sub
  hf : P.hfn 213 = some f213
section
variable {P : Prog} [Own P] [C_load_of P] [C_law_cell_k31 P] [C_law_pot_k61 P] [C_law_great_k62 P] 
/-! ### load_of refuses -/
theorem load_blade (n : Nat) {b w s : T} (hb : WhB P 0 b false) (hw : Fz w) (hs : Fz s) (st : Store) : callN P (n + 3) 65 [b, w, s] st = .exc 1 st := by
  have e := hb.2
  have f := hb.1
  refine wp_exc_eq (wp_fn C_load_of.f65 rfl ?_)
  simp [F_load_of, e, f, hw, hs]
theorem load_weights (n : Nat) {b : Int} (b0 : 0 ≤ b) {w s : T} (hw : WsA P w 1 60 false) (hs : Fz s) (st : Store) : callN P (n + 3) 65 [.int b, w, s] st = .exc 12 st := by
  have e := hw.2
  have f := hw.1.1
  refine wp_exc_eq (wp_fn C_load_of.f65 rfl ?_)
  simp [F_load_of, is_whole_int, e, f, hs, b0]
/-- a side that is none of m weights -/
def SdB (P : Prog) (m : Nat) (s : T) : Prop := WhB P 1 s false ∨ ∃ i : Int, s = .int i ∧ 1 ≤ i ∧ (m : Int) < i
theorem SdB.fz {m : Nat} {s : T} (h : SdB P m s) : Fz s := by
  rcases h with h | ⟨i, rfl, _⟩
  · exact h.1
  · simp
theorem load_side (n : Nat) {b : Int} (b0 : 0 ≤ b) (l : Bool) (ws : List Int) (hw : WsOk ws) (w1 : 1 ≤ ws.length) (w60 : ws.length ≤ 60) {s : T} (hs : SdB P ws.length s) (st : Store) : callN P (n + 3) 65 [.int b, nodeX l (ws.map T.int), s] st = .exc 11 st := by
  have e2 := fun st => are_weights_ok (P := P) n l ws hw 1 60 (by omega) st
  have q1 : (1 : Int) ≤ (ws.length : Int) := by omega
  have q2 : (ws.length : Int) ≤ 60 := by omega
  refine wp_exc_eq (wp_fn C_load_of.f65 rfl ?_)
  rcases hs with ⟨f, e⟩ | ⟨i, rfl, i1, i2⟩
  · simp [F_load_of, is_whole_int, e2, e, f, b0, q1, q2]
  · simp [F_load_of, is_whole_int, e2, b0, q1, q2, i1, i2]
/-! ### what is told -/
def sayN (c : Nat) : Int := if c = 1 then 0 else if c = 12 then 1 else 2
theorem told_exc [SubX P] (n : Nat) {b w s : T} (fb : Fz b) (fw : Fz w) (fs : Fz s) (c : Nat) (hc : c = 1 ∨ c = 12 ∨ c = 11) (e : ∀ st, callN P (n + 3) 65 [b, w, s] st = .exc c st) (st : Store) : callN P (n + 4) 214 [b, w, s] st = .ok (.nd .lst .own [.int (sayN c), .int 13]) st := by
  have x1 : P.excs = prog.excs := SubX.ex
  have x2 : P.sub = sub := SubX.sb
  have e3 : ∀ st, hotF P (sub c) 213 st = .ok (.nd .lst .own [.int (sayN c), .int 13]) st := fun st => by
    have : P.hfn 213 = some f213 := SubX.hf
    refine wp_eq ?_
    simp only [hotF, this]
    rcases hc with rfl | rfl | rfl <;> simp [f213, sub, sayN] <;> rfl
  refine wp_eq (wp_fn Own.p214 rfl ?_)
  rcases hc with rfl | rfl | rfl <;> simp [f214, e, fb, fw, fs, x1, x2, prog, sub, e3]
theorem told_ok (n : Nat) {b : Int} (b0 : 0 ≤ b) (l : Bool) (ws : List Int) (hw : WsOk ws) (w60 : ws.length ≤ 60) (side : Nat) (h1 : 1 ≤ side) (hs : side ≤ ws.length) (st : Store) :
    callN P (n + 4) 214 [.int b, nodeX l (ws.map T.int), .int side] st = .ok (.bl true) st := by
  have e1 := fun st => load_of_ok (P := P) n b b0 l ws hw side h1 hs w60 st
  have z : ∀ (a : Int) (ys : List T) (st : Store), fzaR (.nd .tup .opn [.int a, .nd .lst .own ys]) st = .ok (.nd .tup .fz [.int a, .nd .lst .fz ys]) st := fun _ _ _ => rfl
  refine wp_eq (wp_fn Own.p214 rfl ?_)
  simp [f214, e1, fzaR_nodeX, z]
/-! ### what is bad -/
theorem blade_bad (n : Nat) : Gen P (n + 3) 210 [] (fun t => WhB P 0 t false ∧ Stays t ∧ RpB t 5 3) := by
  intro st k h
  refine wp_fn Own.p210 rfl ?_
  simp [f210]
  refine Gen.use (greatU n) h.start ?_
  rintro _ st1 ⟨far, rfl, p1, q1⟩ H1
  simp
  refine Gen.use (drawU (n + 1) _ (by omega) (by omega)) H1 ?_
  rintro _ st2 ⟨v, rfl, p2, q2⟩ H2
  simp
  refine wp_atI p2 (by simpa using q2) fun x hx => ?_
  have hb : WhB P 0 x false ∧ Stays x ∧ RpB x 5 3 := by
    simp only [List.mem_cons, List.not_mem_nil, or_false] at hx
    rcases hx with rfl | rfl | rfl | rfl | rfl | rfl | rfl | rfl | rfl
    · exact ⟨wh_bad (by omega), ⟨by simp, fun k => by simp⟩, (rp_int (by decide)).mono (by omega) (by omega)⟩
    · exact ⟨wh_bad (by omega), ⟨by simp, fun k => by simp⟩, (rp_int (by omega)).mono (by omega) (by omega)⟩
    · exact ⟨wh_not 0 _ (by simp) .bool (fun _ => rfl) (by simp), ⟨by simp, fun k => by simp⟩, (rp_bl _).mono (by omega) (by omega)⟩
    · exact ⟨wh_not 0 _ (by simp) .bool (fun _ => rfl) (by simp), ⟨by simp, fun k => by simp⟩, (rp_bl _).mono (by omega) (by omega)⟩
    · exact ⟨wh_not 0 _ (by simp) .str (fun _ => rfl) (by simp), ⟨by simp, fun k => by simp⟩, (rp_str _ (by decide)).mono (by decide) (by omega)⟩
    · exact ⟨wh_not 0 _ (by simp) .list (fun _ => rfl) (by simp), Stays.nd (by simp), (rp_lst (n := 0) (m := 1) fun y hy => by simp at hy; subst hy; exact rp_int (by decide)).mono (by simp) (by omega)⟩
    · exact ⟨wh_not 0 _ (by simp) .tuple (fun _ => rfl) (by simp), Stays.nd (by simp), (rp_tup (n := 0) (m := 1) fun y hy => by simp at hy; subst hy; exact rp_int (by decide)).mono (by simp) (by omega)⟩
    · exact ⟨wh_not 0 _ (by simp) .non (fun _ => rfl) (by simp), ⟨by simp, fun k => by simp⟩, rp_non.mono (by omega) (by omega)⟩
    · exact ⟨wh_not 0 _ (by simp) .dict (fun _ => rfl) (by simp), Stays.nd (by simp), rp_dic0.mono (by omega) (by omega)⟩
  simp [hb.2.1.leave]
  exact ⟨hb, H2.take⟩
theorem side_bad (n : Nat) (m : Nat) (hm : m ≤ 60) : Gen P (n + 3) 211 [.int m] (fun t => SdB P m t ∧ Stays t ∧ RpB t 5 3) := by
  intro st k h
  refine wp_fn Own.p211 rfl ?_
  simp [f211]
  refine Gen.use (greatU n) h.start ?_
  rintro _ st1 ⟨far, rfl, p1, q1⟩ H1
  simp
  refine Gen.use (greatU n) H1 ?_
  rintro _ st3 ⟨far2, rfl, p3, q3⟩ H3
  simp
  refine Gen.use (drawU (n + 1) _ (by omega) (by omega)) H3 ?_
  rintro _ st2 ⟨v, rfl, p2, q2⟩ H2
  simp
  refine wp_atI p2 (by simpa using q2) fun x hx => ?_
  have hb : SdB P m x ∧ Stays x ∧ RpB x 5 3 := by
    simp only [List.mem_cons, List.not_mem_nil, or_false] at hx
    rcases hx with rfl | rfl | rfl | rfl | rfl | rfl | rfl | rfl | rfl
    · exact ⟨.inl (wh_bad (by omega)), ⟨by simp, fun k => by simp⟩, (rp_int (by decide)).mono (by omega) (by omega)⟩
    · exact ⟨.inl (wh_bad (by omega)), ⟨by simp, fun k => by simp⟩, (rp_int (by decide)).mono (by omega) (by omega)⟩
    · exact ⟨.inl (wh_bad (by omega)), ⟨by simp, fun k => by simp⟩, (rp_int (by omega)).mono (by omega) (by omega)⟩
    · exact ⟨.inr ⟨_, rfl, by omega, by omega⟩, ⟨by simp, fun k => by simp⟩, (rp_int (by omega)).mono (by omega) (by omega)⟩
    · exact ⟨.inr ⟨_, rfl, by omega, by omega⟩, ⟨by simp, fun k => by simp⟩, (rp_int (by omega)).mono (by omega) (by omega)⟩
    · exact ⟨.inl (wh_not 1 _ (by simp) .bool (fun _ => rfl) (by simp)), ⟨by simp, fun k => by simp⟩, (rp_bl _).mono (by omega) (by omega)⟩
    · exact ⟨.inl (wh_not 1 _ (by simp) .str (fun _ => rfl) (by simp)), ⟨by simp, fun k => by simp⟩, (rp_str _ (by decide)).mono (by decide) (by omega)⟩
    · exact ⟨.inl (wh_not 1 _ (by simp) .list (fun _ => rfl) (by simp)), Stays.nd (by simp), (rp_lst (n := 0) (m := 1) fun y hy => by simp at hy; subst hy; exact rp_int (by decide)).mono (by simp) (by omega)⟩
    · exact ⟨.inl (wh_not 1 _ (by simp) .non (fun _ => rfl) (by simp)), ⟨by simp, fun k => by simp⟩, rp_non.mono (by omega) (by omega)⟩
  simp [hb.2.1.leave]
  exact ⟨hb, H2.take⟩
/-- the weights with a bad one at a place -/
def spoilW (ws : List Int) (j : Nat) (x : T) : List (T × Bool) := (ws.take j).map (fun i => (T.int i, true)) ++ (x, false) :: (ws.drop j).map fun i => (T.int i, true)
theorem spoilW_ws (ws : List Int) (hw : WsOk ws) (h8 : ws.length ≤ 8) (j : Nat) {x : T} (hx : WhB P 0 x false) (l : Bool) : WsA P (nodeX l ((spoilW ws j x).map (·.1))) 1 60 false := by
  have h := ws_node (P := P) l (spoilW ws j x) 1 60 (fun p hp => ?_) ?_
  · have e : (spoilW ws j x).all (·.2) = false := by
      rw [List.all_eq_false]
      exact ⟨(x, false), by simp [spoilW], by simp⟩
    rw [e, Bool.and_false] at h
    exact h
  · simp only [spoilW, List.mem_append, List.mem_cons, List.mem_map] at hp
    rcases hp with ⟨i, hi, rfl⟩ | rfl | ⟨i, hi, rfl⟩
    · exact wh_good (hw i (List.mem_of_mem_take hi))
    · exact hx
    · exact wh_good (hw i (List.mem_of_mem_drop hi))
  · simp [spoilW]; omega
theorem weights_bad (n : Nat) (ws : List Int) (hw : WsOk ws) (h9 : ∀ i ∈ ws, i < 9) (w1 : 1 ≤ ws.length) (w8 : ws.length ≤ 8) : Gen P (n + 3) 212 [.nd .lst .fz (ws.map T.int)] (fun t => WsA P t 1 60 false ∧ RpB t 100 4) := by
  intro st k h
  refine wp_fn Own.p212 rfl ?_
  simp [f212]
  refine Gen.use (drawU (n + 1) _ (by omega) (by omega)) h.start ?_
  rintro _ st1 ⟨way, rfl, p1, q1⟩ H1
  simp
  refine ⟨fun c => ?_, fun c => ?_⟩
  · refine Gen.use (greatU n) H1 ?_
    rintro _ st2 ⟨far, rfl, p2, q2⟩ H2
    simp
    refine Gen.use (drawU (n + 1) _ (by omega) (by omega)) H2 ?_
    rintro _ st3 ⟨v, rfl, p3, q3⟩ H3
    simp
    refine wp_atI p3 (by simpa using q3) fun x hx => ?_
    have hb : WhB P 0 x false ∧ Stays x ∧ RpB x 5 3 := by
      simp only [List.mem_cons, List.not_mem_nil, or_false] at hx
      rcases hx with rfl | rfl | rfl | rfl | rfl | rfl
      · exact ⟨wh_bad (by omega), ⟨by simp, fun k => by simp⟩, (rp_int (by decide)).mono (by omega) (by omega)⟩
      · exact ⟨wh_not 0 _ (by simp) .bool (fun _ => rfl) (by simp), ⟨by simp, fun k => by simp⟩, (rp_bl _).mono (by omega) (by omega)⟩
      · exact ⟨wh_not 0 _ (by simp) .str (fun _ => rfl) (by simp), ⟨by simp, fun k => by simp⟩, (rp_str _ (by decide)).mono (by decide) (by omega)⟩
      · exact ⟨wh_not 0 _ (by simp) .non (fun _ => rfl) (by simp), ⟨by simp, fun k => by simp⟩, rp_non.mono (by omega) (by omega)⟩
      · exact ⟨wh_not 0 _ (by simp) .list (fun _ => rfl) (by simp), Stays.nd (by simp), (rp_lst (n := 0) (m := 1) fun y hy => by simp at hy; subst hy; exact rp_int (by decide)).mono (by simp) (by omega)⟩
      · exact ⟨wh_bad (by omega), ⟨by simp, fun k => by simp⟩, (rp_int (by omega)).mono (by omega) (by omega)⟩
    have f := hb.1.1
    simp [f]
    refine Gen.use (drawU (n + 1) _ (by omega) (by omega)) H3 ?_
    rintro _ st4 ⟨j, rfl, p4, q4⟩ H4
    have f2 : ∀ st, fzR x st = .ok x st := fun st => by unfold fzR; rw [f st]
    obtain ⟨J, rfl⟩ : ∃ J : Nat, j = J := ⟨j.toNat, by omega⟩
    have hJ : J ≤ ws.length := by omega
    have c1 : cutT (ws.map T.int) none (some (J : Int)) = (ws.map T.int).take J := cutT_any
    have c2 : cutT (ws.map T.int) (some (J : Int)) none = (ws.map T.int).drop J := by
      cases J with
      | zero => simp only [cutT, HT.sIx]; simp [List.take_of_length_le]
      | succ J => exact cutT_fromN
    have l1 : lenOk (((ws.map T.int).take J).length + 1) = true := lenOk_lt (by rw [List.length_take, List.length_map]; omega)
    have l2 : lenOk (((ws.map T.int).take J).length + 1 + ((ws.map T.int).drop J).length) = true := lenOk_lt (by rw [List.length_take, List.length_drop, List.length_map]; omega)
    simp [f2, c1, c2] at l1 l2 ⊢
    refine ⟨l1, l2, l1, l2, ?_⟩
    refine wp_atI (Int.emod_nonneg _ (by omega)) (by show way % 2 < ((2 : Nat) : Int); omega) fun y hy => ?_
    have big : ∀ z ∈ (ws.map T.int).take J ++ x :: (ws.map T.int).drop J, RpB z 5 3 := fun z hz => by
      rw [← List.map_take, ← List.map_drop] at hz
      rcases List.mem_append.mp hz with hz | hz
      · obtain ⟨i, hi, rfl⟩ := List.mem_map.mp hz
        have := hw i (List.mem_of_mem_take hi)
        have := h9 i (List.mem_of_mem_take hi)
        exact (rp_int (by omega)).mono (by omega) (by omega)
      · rcases List.mem_cons.mp hz with rfl | hz
        · exact hb.2.2
        · obtain ⟨i, hi, rfl⟩ := List.mem_map.mp hz
          have := hw i (List.mem_of_mem_drop hi)
          have := h9 i (List.mem_of_mem_drop hi)
          exact (rp_int (by omega)).mono (by omega) (by omega)
    have len : ((ws.map T.int).take J ++ x :: (ws.map T.int).drop J).length ≤ 9 := by simp; omega
    have sp : (spoilW ws J x).map (·.1) = (ws.map T.int).take J ++ x :: (ws.map T.int).drop J := by
      rw [← List.map_take, ← List.map_drop]
      simp [spoilW, Function.comp_def]
    have hs := fun l => spoilW_ws (P := P) ws hw w8 J hb.1 l
    rw [sp] at hs
    have hy : WsA P y 1 60 false ∧ RpB y 100 4 := by
      simp only [List.mem_cons, List.not_mem_nil, or_false] at hy
      rcases hy with rfl | rfl
      · exact ⟨hs true, (rp_lst big).mono (by omega) (by omega)⟩
      · exact ⟨hs false, (rp_tup big).mono (by omega) (by omega)⟩
    simp [hy.1.1.leave]
    exact ⟨hy, H4.take⟩
  · have m1 : ∀ st, mulT (.nd .lst .own [.int 1]) (.int 61) st = .ok (.nd .lst .own (List.replicate 61 (.int 1))) st := fun _ => rfl
    have d1 : ∀ (st : Store), disT (.int 1) (.int 1) st = .ok (.nd (.dic [.num 1]) .own [.int 1, .int 1]) st := fun _ => rfl
    simp [m1, d1]
    refine wp_atI (by omega) (by show way - 5 < ((5 : Nat) : Int); omega) fun y hy => ?_
    have hy : WsA P y 1 60 false ∧ RpB y 100 4 := by
      simp only [List.mem_cons, List.not_mem_nil, or_false] at hy
      have one : RpB (.int 1) 0 1 := rp_int (by decide)
      rcases hy with rfl | rfl | rfl | rfl | rfl
      · exact ⟨ws_node (P := P) true [] 1 60 (by simp) (by simp), (rp_lst (n := 0) (m := 1) (by simp)).mono (by simp) (by omega)⟩
      · exact ⟨ws_node (P := P) false [] 1 60 (by simp) (by simp), (rp_tup (n := 0) (m := 1) (by simp)).mono (by simp) (by omega)⟩
      · have := ws_node (P := P) true (List.replicate 61 (.int 1, true)) 1 60 (fun p hp => by rw [List.mem_replicate] at hp; rw [hp.2]; exact wh_good (by omega)) (by simp)
        exact ⟨by simpa [nodeX] using this, (rp_lst (n := 0) (m := 1) fun z hz => by
          have e : z = .int 1 := by simpa using hz
          rw [e]; exact one).mono (by simp) (by omega)⟩
      · exact ⟨ws_bt _ ⟨by simp, fun k => by simp⟩ 1 60 .str (fun _ => rfl) (by simp) (by simp), (rp_str _ (by decide)).mono (by decide) (by omega)⟩
      · exact ⟨ws_bt _ (Stays.nd (by simp)) 1 60 .dict (fun _ => rfl) (by simp) (by simp), (rp_dic1 one one).mono (by omega) (by omega)⟩
    simp [hy.1.1.leave]
    exact ⟨hy, H1.take⟩
/-! ### a cell -/
def r62 : Ss := (.cons (.ite (.cmp .Eq (.bin .Mod (.bin .FloorDiv (.var 2) (.lit (.int 4))) (.lit (.int 2))) (.lit (.int 1))) (.cons (.asg (.name 4) (.call 211 (.cons (.var 0) (.cons (.bi .len (.cons (.var 1) .nil)) .nil)))) (.cons (.asg (.name 6) (.lst (.cons (.lit (.int 2)) (.cons (.lit (.int 13)) .nil)))) .nil)) .nil) (.cons (.ite (.cmp .Eq (.bin .Mod (.bin .FloorDiv (.var 2) (.lit (.int 2))) (.lit (.int 2))) (.lit (.int 1))) (.cons (.asg (.name 5) (.call 212 (.cons (.var 0) (.cons (.var 1) .nil)))) (.cons (.asg (.name 6) (.lst (.cons (.lit (.int 1)) (.cons (.lit (.int 13)) .nil)))) .nil)) .nil) (.cons (.ite (.cmp .Eq (.bin .Mod (.var 2) (.lit (.int 2))) (.lit (.int 1))) (.cons (.asg (.name 3) (.call 210 (.cons (.var 0) .nil))) (.cons (.asg (.name 6) (.lst (.cons (.lit (.int 0)) (.cons (.lit (.int 13)) .nil)))) .nil)) .nil) (.cons (.asg (.name 7) (.bi .repr (.cons (.lst (.cons (.var 3) (.cons (.var 5) (.cons (.var 4) .nil)))) .nil))) (.cons (.for_ (.name 8) (.rng1 (.lit (.int 2))) (.cons (.ite (.cmp .NotEq (.call 214 (.cons (.var 3) (.cons (.var 5) (.cons (.var 4) .nil)))) (.var 6)) (.cons (.ret (.lit (.bl false))) .nil) .nil) .nil)) (.cons (.ret (.cmp .Eq (.bi .repr (.cons (.lst (.cons (.var 3) (.cons (.var 5) (.cons (.var 4) .nil)))) .nil)) (.var 7))) .nil))))))
theorem cut_r62 : f215 = ⟨1, 9, (.cons (.asg (.name 1) (.comp (.call 173 (.cons (.var 0) (.cons (.lit (.int 9)) .nil))) false (.name 8) (.rng1 (.bin .Add (.lit (.int 1)) (.call 173 (.cons (.var 0) (.cons (.lit (.int 8)) .nil))))) (.lit (.bl true)))) (.cons (.asg (.name 2) (.call 173 (.cons (.var 0) (.cons (.lit (.int 8)) .nil)))) (.cons (.asg (.name 3) (.call 173 (.cons (.var 0) (.cons (.lit (.int 4)) .nil)))) (.cons (.asg (.name 4) (.bin .Add (.lit (.int 1)) (.call 173 (.cons (.var 0) (.cons (.bi .len (.cons (.var 1) .nil)) .nil))))) (.cons (.asg (.name 5) (.idx (.lst (.cons (.bi .list (.cons (.var 1) .nil)) (.cons (.bi .tuple (.cons (.var 1) .nil)) .nil))) (.call 173 (.cons (.var 0) (.cons (.lit (.int 2)) .nil))))) (.cons (.asg (.name 6) (.lit (.bl true))) r62))))))⟩ := rfl
def dueT (c : Nat) : T := .nd .lst .fz [.int (sayN c), .int 13]
/-- sides, with what is due -/
def S1 (P : Prog) (ws : List Int) (S D : T) : Prop := (∃ side : Nat, S = .int side ∧ 1 ≤ side ∧ side ≤ ws.length ∧ D = .bl true) ∨ (SdB P ws.length S ∧ Stays S ∧ RpB S 5 3 ∧ D = dueT 11)
/-- weights and sides -/
def S2 (P : Prog) (W S D : T) : Prop := (∃ (l : Bool) (ws : List Int), W = nodeX l (ws.map T.int) ∧ (∀ x ∈ ws, 0 ≤ x ∧ x < 9) ∧ 1 ≤ ws.length ∧ ws.length ≤ 8 ∧ S1 P ws S D) ∨ (WsA P W 1 60 false ∧ RpB W 100 4 ∧ Fz S ∧ RpB S 5 3 ∧ D = dueT 12)
/-- a blade, weights, sides -/
def S3 (P : Prog) (B W S D : T) : Prop := (∃ b : Int, B = .int b ∧ 0 ≤ b ∧ b < 4 ∧ S2 P W S D) ∨ (WhB P 0 B false ∧ RpB B 5 3 ∧ Fz W ∧ RpB W 100 4 ∧ Fz S ∧ RpB S 5 3 ∧ D = dueT 1)
theorem S1.rp {ws : List Int} {S D : T} (h : S1 P ws S D) (h8 : ws.length ≤ 8) : Fz S ∧ RpB S 5 3 := by
  rcases h with ⟨side, rfl, h1, h2, _⟩ | ⟨_, h1, h2, _⟩
  · exact ⟨by simp, (rp_int (by omega)).mono (by omega) (by omega)⟩
  · exact ⟨h1.1, h2⟩
theorem S2.rp {W S D : T} (h : S2 P W S D) : Fz W ∧ RpB W 100 4 ∧ Fz S ∧ RpB S 5 3 := by
  rcases h with ⟨l, ws, rfl, h1, h2, h3, h4⟩ | ⟨h1, h2, h3, h4, _⟩
  · refine ⟨by cases l <;> simp [nodeX], ?_, h4.rp h3⟩
    exact (rp_nodeX (n := 0) (m := 1) fun z hz => by
      obtain ⟨i, hi, rfl⟩ := List.mem_map.mp hz
      have := h1 i hi
      exact rp_int (by omega)).mono (by simp; omega) (by omega)
  · exact ⟨h1.1.1, h2, h3, h4⟩
theorem S3.rp {B W S D : T} (h : S3 P B W S D) : (Fz B ∧ RpB B 5 3) ∧ Fz W ∧ RpB W 100 4 ∧ Fz S ∧ RpB S 5 3 := by
  rcases h with ⟨b, rfl, h1, h2, h3⟩ | ⟨h1, h2, h3, h4, h5, h6, _⟩
  · exact ⟨⟨by simp, (rp_int (by omega)).mono (by omega) (by omega)⟩, h3.rp⟩
  · exact ⟨⟨h1.1, h2⟩, h3, h4, h5, h6⟩
theorem S3.told [SubX P] {B W S D : T} (h : S3 P B W S D) (n : Nat) : ∃ D', (∀ st, callN P (n + 4) 214 [B, W, S] st = .ok D' st) ∧ ∀ st, PC.eqT st D' D = some true := by
  have lists : ∀ c : Nat, ∀ st, PC.eqT st (.nd .lst .own [.int (sayN c), .int 13]) (dueT c) = some true := fun c st => eqT_same (d := .list [.int (sayN c), .int 13]) rfl rfl rfl rfl
  obtain ⟨⟨fB, _⟩, fW, _, fS, _⟩ := h.rp
  rcases h with ⟨b, rfl, b0, _, h⟩ | ⟨h1, _, _, _, _, _, rfl⟩
  · rcases h with ⟨l, ws, rfl, hw, w1, w8, h⟩ | ⟨h1, _, _, _, rfl⟩
    · have hw : WsOk ws := fun x hx => (hw x hx).1
      rcases h with ⟨side, rfl, s1, s2, rfl⟩ | ⟨h1, _, _, rfl⟩
      · exact ⟨_, fun st => told_ok n b0 l ws hw (by omega) side s1 s2 st, fun st => by simp⟩
      · exact ⟨_, fun st => told_exc n fB fW fS 11 (by simp) (load_side n b0 l ws hw w1 (by omega) h1) st, lists 11⟩
    · exact ⟨_, fun st => told_exc n fB fW fS 12 (by simp) (load_weights n b0 h1 fS) st, lists 12⟩
  · exact ⟨_, fun st => told_exc n fB fW fS 1 (by simp) (load_blade n h1 fW fS) st, lists 1⟩
theorem rest_ok [SubX P] (n : Nat) {st0 st : Store} {k : Nat} (HP : PSx st0 k [] st) (ws : List Int) (hw : ∀ x ∈ ws, 0 ≤ x ∧ x < 9) (w1 : 1 ≤ ws.length) (w8 : ws.length ≤ 8) (l : Bool) (b : Int) (b0 : 0 ≤ b) (b4 : b < 4) (side : Nat) (s1 : 1 ≤ side) (s2 : side ≤ ws.length) (m : Int) (x7 x8 : Option T) {N : Slots → Store → Prop} :
    wpS (evSs P (callN P (n + 5)) r62 [some (.ref k), some (.nd .lst .fz (ws.map T.int)), some (.int m), some (.int b), some (.int side), some (nodeX l (ws.map T.int)), some (.bl true), x7, x8] st) N (fun t st' => t = .bl true ∧ PSx st0 k [] st') (fun _ _ _ => False) := by
  unfold r62
  refine wpS_mid (fun sl st' => (∃ S D, sl = [some (.ref k), some (.nd .lst .fz (ws.map T.int)), some (.int m), some (.int b), some S, some (nodeX l (ws.map T.int)), some D, x7, x8] ∧ S1 P ws S D) ∧ PSx st0 k [] st') ?_ ?_
  · simp
    refine ⟨by decide, fun _ => ?_, fun _ => ⟨⟨_, _, ⟨rfl, rfl⟩, .inl ⟨side, rfl, s1, s2, rfl⟩⟩, HP⟩⟩
    refine Gen.use (side_bad (n + 2) ws.length (by omega)) HP ?_
    rintro x st1 ⟨z1, z2, z3⟩ H1
    have f := z2.1
    simp [f]
    exact ⟨⟨_, _, ⟨rfl, rfl⟩, .inr ⟨z1, z2, z3, rfl⟩⟩, H1⟩
  rintro _ st1 ⟨⟨S, D, rfl, h1⟩, H1⟩
  refine wpS_mid (fun sl st' => (∃ W D, sl = [some (.ref k), some (.nd .lst .fz (ws.map T.int)), some (.int m), some (.int b), some S, some W, some D, x7, x8] ∧ S2 P W S D) ∧ PSx st0 k [] st') ?_ ?_
  · simp
    refine ⟨by decide, fun _ => ?_, fun _ => ⟨⟨_, _, ⟨rfl, rfl⟩, .inl ⟨l, ws, rfl, hw, w1, w8, h1⟩⟩, H1⟩⟩
    refine Gen.use (weights_bad (n + 2) ws (fun x hx => (hw x hx).1) (fun x hx => (hw x hx).2) w1 w8) H1 ?_
    rintro x st2 ⟨z1, z2⟩ H2
    have f := z1.1.1
    simp [f]
    exact ⟨⟨_, _, ⟨rfl, rfl⟩, .inr ⟨z1, z2, (h1.rp w8).1, (h1.rp w8).2, rfl⟩⟩, H2⟩
  rintro _ st2 ⟨⟨W, D, rfl, h2⟩, H2⟩
  refine wpS_mid (fun sl st' => (∃ B D, sl = [some (.ref k), some (.nd .lst .fz (ws.map T.int)), some (.int m), some B, some S, some W, some D, x7, x8] ∧ S3 P B W S D) ∧ PSx st0 k [] st') ?_ ?_
  · simp
    refine ⟨fun _ => ?_, fun _ => ⟨⟨_, _, ⟨rfl, rfl⟩, .inl ⟨b, rfl, b0, b4, h2⟩⟩, H2⟩⟩
    refine Gen.use (blade_bad (n + 2)) H2 ?_
    rintro x st3 ⟨z1, z2, z3⟩ H3
    have f := z2.1
    obtain ⟨y1, y2, y3, y4⟩ := h2.rp
    simp [f]
    exact ⟨⟨_, _, ⟨rfl, rfl⟩, .inr ⟨z1, z3, y1, y2, y3, y4, rfl⟩⟩, H3⟩
  rintro _ st3 ⟨⟨B, D, rfl, h3⟩, H3⟩
  obtain ⟨⟨fB, rB⟩, fW, rW, fS, rS⟩ := h3.rp
  obtain ⟨D', e1, e2⟩ := h3.told (n + 1)
  have r2 : ∀ st, fzR S st = .ok S st := fun st => by unfold fzR; rw [fS st]
  obtain ⟨t, ht⟩ := rp_repr (rp_lst (o := .own) (xs := [B, W, S]) (n := 100) (m := 4) fun z hz => by
    simp only [List.mem_cons, List.not_mem_nil, or_false] at hz
    rcases hz with rfl | rfl | rfl
    · exact rB.mono (by omega) (by omega)
    · exact rW
    · exact rS.mono (by omega) (by omega)) (by simp) (by omega)
  simp [fB, fW, fS, ht, e1, e2]
  refine wp_for (fun i sl st' => (∃ y, sl = [some (.ref k), some (.nd .lst .fz (ws.map T.int)), some (.int m), some B, some S, some W, some D, some (.str t), y]) ∧ st' = st3) ⟨⟨_, rfl⟩, rfl⟩ ?_ ?_
  · rintro i x _ _ hx ⟨⟨y, rfl⟩, rfl⟩
    obtain ⟨rfl, hi⟩ := rngT_get hx
    simp [fB, fW, fS, e1, e2]
  · rintro _ _ ⟨⟨y, rfl⟩, rfl⟩
    simp [fB, fW, fS, ht]
    exact H3
theorem ints_all : ∀ ys : List T, (∀ y ∈ ys, ∃ r, y = T.int r ∧ 0 ≤ r ∧ r < 9) → ∃ ws : List Int, ys = ws.map T.int ∧ ∀ x ∈ ws, 0 ≤ x ∧ x < 9
  | [], _ => ⟨[], rfl, by simp⟩
  | y :: ys, h => by
    obtain ⟨r, rfl, h1, h2⟩ := h y (by simp)
    obtain ⟨ws, rfl, hw⟩ := ints_all ys fun z hz => h z (by simp [hz])
    exact ⟨r :: ws, rfl, fun x hx => (List.mem_cons.mp hx).elim (fun e => by rw [e]; exact ⟨h1, h2⟩) (hw x)⟩
theorem right [SubX P] (n : Nat) : Gen P (n + 6) 215 [] (fun t => t = .bl true) := by
  intro st k h
  refine wp_fn Own.p215 rfl ?_
  rw [cut_r62]
  simp
  refine Gen.use (drawU (n + 4) _ (by omega) (by omega)) h.start ?_
  rintro _ st1 ⟨m, rfl, p1, q1⟩ H1
  simp
  refine ⟨rngOk_lt (by omega) (by omega) (by omega) (by omega) (by omega), lenOk_lt (by omega), ?_⟩
  refine comp_gen (drawU (P := P) (n + 4) 9 (by omega) (by omega)) H1 (fun _ _ => rfl) (fun _ _ => rfl) (fun t ⟨r, e, _⟩ => by rw [e]; simp) fun ys st2 hl hp H2 => ?_
  obtain ⟨ws, rfl, hw⟩ := ints_all ys hp
  rw [List.length_map, rng_length] at hl
  have w1 : 1 ≤ ws.length := by omega
  have w8 : ws.length ≤ 8 := by omega
  simp
  refine Gen.use (drawU (n + 4) _ (by omega) (by omega)) H2 ?_
  rintro _ st3 ⟨m, rfl, p3, q3⟩ H3
  simp
  refine Gen.use (drawU (n + 4) _ (by omega) (by omega)) H3 ?_
  rintro _ st4 ⟨b, rfl, p4, q4⟩ H4
  simp
  refine Gen.use (drawU (n + 4) _ (by omega) (by omega)) H4 ?_
  rintro _ st5 ⟨r, rfl, p5, q5⟩ H5
  simp
  refine Gen.use (drawU (n + 4) _ (by omega) (by omega)) H5 ?_
  rintro _ st6 ⟨v, rfl, p6, q6⟩ H6
  obtain ⟨side, hs⟩ : ∃ side : Nat, 1 + r = side := ⟨(1 + r).toNat, by omega⟩
  simp [hs]
  refine wp_atI p6 (by simpa using q6) fun x hx => ?_
  obtain ⟨l, rfl⟩ : ∃ l, x = nodeX l (ws.map T.int) := by
    simp only [List.mem_cons, List.not_mem_nil, or_false] at hx
    rcases hx with rfl | rfl
    · exact ⟨true, rfl⟩
    · exact ⟨false, rfl⟩
  have f : Fz (nodeX l (ws.map T.int)) := by cases l <;> simp [nodeX]
  simp [f]
  rw [hs]
  refine wpS_mono (rest_ok (P := P) n H6 ws hw w1 w8 l b p4 (by omega) side (by omega) (by omega) m none none (N := fun _ _ => False)) (fun _ _ z => z.elim) (fun t st' z => ?_) (fun _ _ _ z => z.elim)
  obtain ⟨rfl, H⟩ := z
  simp
  exact H.take
theorem law [SubX P] (n : Nat) (ns : List Int) (hn : ns.length ≤ 63) : wp (callN P (n + 9) 216 [.nd .scr .fz (ns.map T.int)] []) (fun t _ => t = .bl true) nX := by
  refine wp_fn Own.p216 rfl ?_
  have hr := range_min ns.length 10 (by omega) (by omega) (by omega)
  simp [f216, hr]
  refine wp_for (fun i sl st' => ∃ x1, sl = [some (.nd .scr .fz (ns.map T.int)), x1]) ⟨_, rfl⟩ ?_ ?_
  · rintro i x _ st hx ⟨x1, rfl⟩
    obtain ⟨rfl, hi⟩ := rngT_get hx
    obtain ⟨c, e1⟩ := cellB (P := P) (n + 7) ns i st
    obtain ⟨a, b, e2⟩ := potL (P := P) (n + 7) c st
    simp [e1, e2, pot]
    refine Gen.use (right (n + 2)) (st0 := st ++ [pot a b]) (tl := []) (k := st.length) (IsPot.start ⟨a, b, by simp⟩) ?_
    rintro _ st1 rfl H1
    simp
  · rintro _ _ ⟨x1, rfl⟩
    simp
end
instance : SubX prog := ⟨rfl, rfl, rfl⟩
theorem plain : ∀ ns : List Int, ns.length ≤ 63 → ∃ st, callN prog 200 216 [.nd .scr .fz (ns.map T.int)] [] = .ok (.bl true) st := by
  intro ns h
  obtain ⟨t, st, e, rfl⟩ := wp_ex (law (P := prog) 191 ns h)
  exact ⟨st, e⟩
end Z
set_option maxHeartbeats 0
open PySem PySem.W PySem.Calls PyProof.Rows
theorem PySem.Challenge.cw_platecuts_k62_loads_refused_holds : PySem.Challenge.rw_platecuts_k62_loads_refused.Holds := by
  w_on; o_law
  refine HandSHeadRun.head_any (r := OpenLaw.row PySem.Challenge.rw_platecuts_k62_loads_refused) (q := view (OpenLaw.row PySem.Challenge.rw_platecuts_k62_loads_refused).prog [36]) (H := Z.hk) (ob := Z.ob) (M := 30000) (loose := Z.loose) (d := HandSHeadRun.topDef (OpenLaw.row PySem.Challenge.rw_platecuts_k62_loads_refused).prog 36) (kwd := []) Z.ob_eq
    (by kernel_rfl) (fun s => by kernel_rfl) Z.run (by kernel_rfl) (by kernel_rfl) (by kernel_rfl) (by rfl) (by first | assumption | decide +kernel) (by decide +kernel) ⟨rfl, rfl, rfl, rfl, rfl, by decide +kernel⟩ ?hw ?hc
  case hw => w_witness2
  case hc =>
    exact PC.law_walk (l := PySem.Challenge.rw_platecuts_k62_loads_refused) (L := Z.L) (m := 5) (n := 63) (fuel := Z.fuel) (li := Z.lawIx) (x := "_law_script") rfl (by decide) (by kernel_rfl) ⟨rfl, by decide, by decide⟩ Z.okB rfl (by kernel_rfl) rfl rfl Z.plain
